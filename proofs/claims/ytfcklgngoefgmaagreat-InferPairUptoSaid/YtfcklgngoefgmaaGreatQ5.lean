/-
  Parts of the proof, merged: SuN32, SuN33, SuN34, SuN35, SuNw, Cfg, It, J0, G1, G2, G3, G4, G5, G6, G7, T0.
-/
import Derived.KernelRfl
import Derived.LoopNIn
import Derived.OwnWalkIn
import Derived.RangeFuncBound
import Derived.RangeFuncKeeps
import Derived.RangeFuncLeaves
import Derived.Shelf.Abstract
import Derived.TacticsInMore
import Derived.Test.YtfcklgngoefgmaaGreatProg
import Derived.Test.YtfcklgngoefgmaaGreatRows
import Derived.WalkKit
import Derived.Test.YtfcklgngoefgmaaGreatQ3
import Derived.Test.YtfcklgngoefgmaaGreatQ4
set_option linter.defProp false
set_option linter.unusedSectionVars false
set_option linter.unusedSimpArgs false
set_option linter.unusedVariables false
open Array renaming replicate_succ → z8q, replicate_zero → z9q
open Bool renaming and_eq_true → zkq
open Int renaming toNat_natCast → zzq
open List renaming mem_cons_self → z0q, mem_cons_of_mem → z1q, getElem?_eq_getElem → z2q, mem_append_right → z3q, idxOf_lt_length_of_mem → z4q, mem_append_left → z5q, mem_singleton → z6q, append_assoc → z7q, append_toArray → zaq, size_toArray → zbq, push_toArray → zcq, length_nil → zdq, length_cons → zeq, cons_append → zfq, mem_cons → zgq, mem_append → zhq, getElem?_eq_some_iff → ziq, nil_append → zjq, mem_map → zlq, all_eq_true → znq, getD_eq_getElem?_getD → zoq, setIfInBounds_toArray → zpq, map_cons → zqq, drop_eq_getElem_cons → zrq, length_eq_zero_iff → zsq, mem_of_mem_tail → ztq, map_append → zuq, append_nil → zvq, length_map → zwq, map_congr_left → zxq, getElem_idxOf → zyq, set_cons_zero → zAq, set_cons_succ → zBq, length_append → zCq, nodup_append → zDq, idxOf_append → zEq, getElem_map → zFq, drop_length → zGq, not_mem_nil → zHq, map_nil → zIq, of_mem_zip → zJq, foldl_cons → zKq, idxOf_cons → zLq
open Nat renaming le_refl → zmq
namespace Go.Su
section
section
variable {R R':Rec}{e:Ex}
def A6K{k:Ex}(h:R k=R' k)(w:W)(A8:Nat)(l:List EN):J2 R w k A8 l=J2 R' w k A8 l:=by unfold J2;rw[h]
def A89{A8:Nat}{l:List EN}{v r:Nat}:∀(qs:List (F5×Ex))(w:W),(∀a∈qs,R a.2=R' a.2)->Ci R A8 l v r qs w=Ci R' A8 l v r qs w
 |[],w,_=>by rw[Ci,Ci]
 | (p,k)::qs,w,h=>by
   have hk:=A6K (h (p,k) (z0q ..));simp only at hk;rw[Ci,Ci];split
   ·rfl
   ·simp only[hk]
    exact A89 qs _ λa ha=>h a (z1q _ ha)
def B2V{A8:Nat}{l:List EN}{want:Nat}:∀(ks:List Ex)(w:W),(∀k∈ks,R k=R' k)->FE R A8 l want ks w=FE R' A8 l want ks w
 |[],w,_=>by rw[FE,FE]
 |k::ks,w,h=>by rw[FE,FE,A6K (h k (z0q ..))];exact B2V ks _ λa ha=>h a (z1q _ ha)
def B6f(hr:e.right=true)(h:∀k∈e.D5,R k=R' k)(w:W)(A8:Nat)(l:List EN):R7 R w e A8 l=R7 R' w e A8 l:=by
 obtain⟨k1,k2,k3⟩:=Ex.bY hr;have kd:∀i,i<e.D5.length->∀(w:W)(A8:Nat)(l:List EN),J2 R w (e.kd i) A8 l=J2 R' w (e.kd i) A8 l:=λi hi=>A6K (h _ (Ex.CR hi));unfold R7;by_cases g:e.E8=1
 ·rw[A9 g,A9 g]
 rw[A7 g,A7 g];by_cases g:e.E8=2\/e.E8=3\/e.E8=4\/e.E8=5
 ·rw[A9 g,A9 g]
 rw[A7 g,A7 g];by_cases g:e.E8=6
 ·have n2:e.D5.length=2:=by simp[g,L9]at k3;omega
  rw[A9 g,A9 g];simp only[kd 0 (by omega),kd 1 (by omega)]
 rw[A7 g,A7 g];by_cases g:e.E8=7
 ·rw[A9 g,A9 g]
 rw[A7 g,A7 g];by_cases g:e.E8=8
 ·have n2:e.D5.length=2:=by simp[g,L9]at k3;omega
  rw[A9 g,A9 g];unfold MM;simp only[kd 0 (by omega),kd 1 (by omega)]
 rw[A7 g,A7 g];by_cases g:e.E8=9
 ·have n2:e.D5.length=1:=by simp[g,L9]at k3;omega
  rw[A9 g,A9 g];simp only[kd 0 (by omega)]
 rw[A7 g,A7 g];by_cases g:e.E8=10
 ·have n2:e.D5.length=2:=by simp[g,L9]at k3;omega
  rw[A9 g,A9 g];unfold Ru;simp only[kd 0 (by omega),kd 1 (by omega)]
 rw[A7 g,A7 g];by_cases g:e.E8=11
 ·have n2:e.D5.length=2:=by simp[g,L9]at k3;omega
  rw[A9 g,A9 g];unfold Ry;simp only[kd 0 (by omega),kd 1 (by omega)]
 rw[A7 g,A7 g];by_cases g:e.E8=12
 ·have n2:e.D5.length=2:=by simp[g,L9]at k3;omega
  rw[A9 g,A9 g];unfold SA;simp only[kd 0 (by omega),kd 1 (by omega)]
 rw[A7 g,A7 g];by_cases g:e.E8=13
 ·have n2:e.D5.length=3:=by simp[g,L9]at k3;omega
  rw[A9 g,A9 g];unfold ML;simp only[kd 0 (by omega),kd 1 (by omega),kd 2 (by omega)]
 rw[A7 g,A7 g];by_cases g:e.E8=14
 ·have n1:e.D5.length=e.J7.length+1:=by simp[g,L9]at k3;omega
  rw[A9 g,A9 g];unfold Ip;simp only[kd 0 (by omega)]
  exact A89 _ _ λa ha=>h _ (ztq (zJq ha).2)
 rw[A7 g,A7 g];by_cases g:e.E8=15
 ·have n2:e.D5.length=1:=by simp[g,L9]at k3;omega
  rw[A9 g,A9 g];simp only[kd 0 (by omega)]
 rw[A7 g,A7 g];rw[B2V e.D5 w h]
end
def nK:∀(f g:Nat)(e:Ex),e.right=true->e.size<=f->e.size<=g->K9 f e=K9 g e
 |0,g,e,hr,h,_=>by have:=e.size_eq;omega
 |f+1,0,e,hr,_,h=>by have:=e.size_eq;omega
 |f+1,g+1,e,hr,h1,h2=>by funext A8 l w;rw[K9,K9];simp only;rw[B6f (R:=K9 f) (R':=K9 g) hr λk hk=>nK f g k (Ex.Bf hr hk) (by have:=Ex.CG hk;omega) (by have:=Ex.CG hk;omega)]
variable (w:W)
def Bd(w':W):Prop:=w'.err=0->w.err=0/\w'.bad=w.bad
def Bd.refl:Bd w w:=λh=>⟨h,rfl⟩
def Bd.trans{a b c:W}(h:Bd a b)(k:Bd b c):Bd a c:=λe=>by obtain⟨k1,k2⟩:=k e;obtain⟨h1,h2⟩:=h k1;exact⟨h1,k2.trans h2⟩
section
variable {a w:W}
def QA(h:Bd a w)(e:Nat)(b:GJ):Bd a (w.fails e b):=h.trans λg=>by
 unfold W.fails at g ⊢;split
 ·rename_i c;rw[A9 c]at g;exact absurd g c.2
 ·rename_i c;rw[A7 c]at g;exact⟨g,rfl⟩
def A2d(h:Bd a w)(S:E9):Bd a { w with s:=S }:=h
def mK(h:Bd a w)(l:List Nat):Bd a (w.Y1 l):=h
def A9d(h:Bd a w)(l:List Nat):Bd a (w.RU l):=h
def A5v(h:Bd a w)(n A8:Nat):Bd a (w.above n A8).1:=h
def Na(h:Bd a w)(A8:Nat):Bd a (w.fresh A8).1:=by
 unfold W.fresh;split
 ·exact h
 ·exact QA (A2d h _) _ _
def Zx(h:Bd a w)(k x y:Nat):Bd a (w.made k x y).1:=by
 unfold W.made;split
 ·exact h
 ·exact QA (A2d h _) _ _
def A5w(h:Bd a w)(t:Ty):Bd a (w.put t).1:=by
 unfold W.put;split
 ·exact h
 ·exact QA (A2d h _) _ _
def Eb(h:Bd a w)(x y:Nat)(e:Ex):Bd a (w.agree x y e):=by
 unfold W.agree;split
 ·exact h
 ·exact QA (A2d h _) _ _
def A9c{q:W×Nat}(h:Bd a q.1):Bd a (W.tell q).1:=h
def zQ(h:Bd a w)(t:Ty)(A8:Nat):Bd a (w.Y0 t A8).1:=by
 unfold W.Y0;split
 ·exact A5w h t
 ·exact A9c (Na h A8)
def A2c(A8:Nat):∀(k:Nat){w:W},Bd a w->Bd a (W.many A8 k w)
 |0,w,h=>h
 |k+1,w,h=>A2c A8 k (A9c (Na h A8))
def B6d(h:Bd a w)(e:Ex)(A8:Nat)(l:List EN):Bd a (w.name e A8 l).1:=by
 unfold W.name;split
 ·exact QA h _ _
 ·split
  ·exact h
  ·simp only
   split
   ·exact A2c A8 _ h
   ·exact QA (A2d (A2c A8 _ h) _) _ _
def B6b(h:Bd a w)(f x:Nat)(e:Ex)(A8:Nat):Bd a (TI w f x e A8).1:=by
 unfold TI;split
 ·exact h
 ·split
  ·exact Eb h _ _ _
  ·split
   ·exact Eb (Eb (Zx (Na (Na h _) _) _ _ _) _ _ _) _ _ _
   ·split
    ·exact Eb h _ _ _
    ·exact QA h _ _
variable {R:Rec}{e:Ex}{A8:Nat}{l:List EN}
def RBd(R:Rec)(k:Ex):Prop:=∀A8 l w,Bd w (R k A8 l w).1
def Cb{k:Ex}(hk:RBd R k)(h:Bd a w)(A8:Nat)(l:List EN):Bd a (J2 R w k A8 l).1:=by
 unfold J2;split
 ·exact h
 ·exact h.trans (hk A8 l w)
def A9b{v r:Nat}:∀(qs:List (F5×Ex))(w:W),(∀a∈qs,RBd R a.2)->Bd a w->Bd a (Ci R A8 l v r qs w).1
 |[],w,_,h=>by rw[Ci];exact h
 | (p,k)::qs,w,hq,h=>by
   rw[Ci];split
   ·exact h
   ·exact A9b qs _ (λx hx=>hq x (z1q _ hx)) (Eb (Cb (hq (p,k) (z0q ..)) (QA (A2d h _) _ _) _ _) _ _ _)
def B1X{want:Nat}:∀(ks:List Ex)(w:W),(∀k∈ks,RBd R k)->Bd a w->Bd a (FE R A8 l want ks w)
 |[],w,_,h=>by rw[FE];exact h
 |k::ks,w,hq,h=>by rw[FE];exact B1X ks _ (λx hx=>hq x (z1q _ hx)) (Eb (Cb (hq k (z0q ..)) h _ _) _ _ _)
def B6c(hr:e.right=true)(hk:∀k∈e.D5,RBd R k)(h:Bd a w):Bd a (R7 R w e A8 l).1:=by
 obtain⟨k1,k2,k3⟩:=Ex.bY hr;have kd:∀i,i<e.D5.length->RBd R (e.kd i):=λi hi=>hk _ (Ex.CR hi);unfold R7;by_cases g:e.E8=1
 ·rw[A9 g];exact B6d h _ _ _
 rw[A7 g];by_cases g:e.E8=2\/e.E8=3\/e.E8=4\/e.E8=5
 ·rw[A9 g];exact h
 rw[A7 g];by_cases g:e.E8=6
 ·have n2:e.D5.length=2:=by simp[g,L9]at k3;omega
  rw[A9 g];exact Zx (Cb (kd 1 (by omega)) (Cb (kd 0 (by omega)) h _ _) _ _) _ _ _
 rw[A7 g];by_cases g:e.E8=7
 ·rw[A9 g];exact Zx (mK (Na h _) _) _ _ _
 rw[A7 g];by_cases g:e.E8=8
 ·have n2:e.D5.length=2:=by simp[g,L9]at k3;omega
  rw[A9 g];unfold MM;exact Eb (Zx (Eb (mK (Na (Cb (kd 1 (by omega)) (Cb (kd 0 (by omega)) h _ _) _ _) _) _) _ _ _) _ _ _) _ _ _
 rw[A7 g];by_cases g:e.E8=9
 ·have n2:e.D5.length=1:=by simp[g,L9]at k3;omega
  rw[A9 g];exact Zx (Cb (kd 0 (by omega)) (zQ h _ _) _ _) _ _ _
 rw[A7 g];by_cases g:e.E8=10
 ·have n2:e.D5.length=2:=by simp[g,L9]at k3;omega
  rw[A9 g];unfold Ru;exact B6b (Cb (kd 1 (by omega)) (Cb (kd 0 (by omega)) h _ _) _ _) _ _ _ _
 rw[A7 g];by_cases g:e.E8=11
 ·have n2:e.D5.length=2:=by simp[g,L9]at k3;omega
  rw[A9 g];unfold Ry;split
  ·exact Cb (kd 1 (by omega)) (Eb (A5w (Cb (kd 0 (by omega)) h _ _) _) _ _ _) _ _
  ·split
   ·simp only
    split
    ·exact Cb (kd 1 (by omega)) (Cb (kd 0 (by omega)) h _ _) _ _
    ·exact Cb (kd 1 (by omega)) (A9d (A5v (Cb (kd 0 (by omega)) h _ _) _ _) _) _ _
   ·exact Cb (kd 1 (by omega)) (Cb (kd 0 (by omega)) h _ _) _ _
 rw[A7 g];by_cases g:e.E8=12
 ·have n2:e.D5.length=2:=by simp[g,L9]at k3;omega
  rw[A9 g];unfold SA;simp only;have b:=Eb (Cb (kd 0 (by omega)) (Zx (zQ (zQ h e.a (A8+1)) e.b (A8+1)) 9 (w.Y0 e.a (A8+1)).2 ((w.Y0 e.a (A8+1)).1.Y0 e.b (A8+1)).2) (A8+1) (l++[⟨e.name,(((w.Y0 e.a (A8+1)).1.Y0 e.b (A8+1)).1.made 9 (w.Y0 e.a (A8+1)).2 ((w.Y0 e.a (A8+1)).1.Y0 e.b (A8+1)).2).2,[]⟩,⟨e.arg,(w.Y0 e.a (A8+1)).2,[]⟩]));split
  ·exact Cb (kd 1 (by omega)) (b _ _ _) _ _
  ·exact Cb (kd 1 (by omega)) (A9d (A5v (b _ _ _) _ _) _) _ _
 rw[A7 g];by_cases g:e.E8=13
 ·have n2:e.D5.length=3:=by simp[g,L9]at k3;omega
  rw[A9 g];unfold ML;exact Eb (Eb (mK (Na (Cb (kd 2 (by omega)) (Cb (kd 1 (by omega)) (Eb (Cb (kd 0 (by omega)) h _ _) _ _ _) _ _) _ _) _) _) _ _ _) _ _ _
 rw[A7 g];by_cases g:e.E8=14
 ·have n1:e.D5.length=e.J7.length+1:=by simp[g,L9]at k3;omega
  rw[A9 g];unfold Ip;exact A9b _ _ (λa ha=>hk _ (ztq (zJq ha).2)) (mK (Na (Eb (Na (Cb (kd 0 (by omega)) h _ _) _) _ _ _) _) _)
 rw[A7 g];by_cases g:e.E8=15
 ·have n2:e.D5.length=1:=by simp[g,L9]at k3;omega
  rw[A9 g];exact Eb (A5w (Cb (kd 0 (by omega)) h _ _) _) _ _ _
 rw[A7 g];exact B1X _ _ hk h
end
def A55:∀(f:Nat)(e:Ex),e.right=true->RBd (K9 f) e
 |0,e,hr=>λA8 l w=>by rw[K9];exact Bd.refl w
 |f+1,e,hr=>λA8 l w=>by rw[K9];exact B6c (a:=w) (w:={ w with types:=[],vars:=[],D5:=[] }) hr (λk hk=>A55 f k (Ex.Bf hr hk)) (Bd.refl w)
def Rl(w':W):Prop:=(w.err≠0->w'=w)/\(w.err=0->w'.err=0\/w'.err=7)
def Rl.refl:Rl w w:=⟨λ_=>rfl,λh=>.inl h⟩
def Rl.trans{a b c:W}(h:Rl a b)(k:Rl b c):Rl a c:=by
 refine⟨λe=>?_,λe=>?_⟩
 ·have h1:=h.1 e;subst h1;exact k.1 e
 ·rcases h.2 e with g | g
  ·exact k.2 g
  ·have:=k.1 (by omega);rw[this];exact .inr g
theorem B5Y(n:Nat)(h:w.err=0):Rl w (w.rd n):=by
 refine⟨λg=>absurd h g,λ_=>?_⟩;unfold W.rd;rw[EB _ _ _ (by exact h)];unfold E9.read;split
 ·exact .inr rfl
 ·exact .inl rfl
mutual
theorem A7q:∀(d:DD)(w:W),Rl w (AR d w)
 |.mk n ts vs ks,w=>by
   by_cases h:w.err=0
   ·have h':¬w.err≠0:=λg=>g h;rw[AR,A7 h'];exact(B5Y w n h).trans (A35 ks _)
   ·rw[A1G h];exact Rl.refl w
theorem A35:∀(ks:List DD)(w:W),Rl w (LY ks w)
 |[],w=>by rw[LY];exact Rl.refl w
 |k::ks,w=>by rw[LY];exact(A7q k w).trans (A35 ks _)
end
def A7s:∀(ts:List Nat)(w:W),Rl w (Ar ts w).1
 |[],w=>by rw[Ar];exact Rl.refl w
 |n::ts,w=>by
   by_cases h:w.err=0
   ·have h':¬w.err≠0:=λg=>g h;rw[Ar,A7 h'];exact(B5Y w n h).trans (A7s ts _)
   ·rw[vT h];exact Rl.refl w
mutual
theorem A9K:∀(d:DD)(w:W),Rl w (BM d w).1
 |.mk n ts vs ks,w=>by rw[BM];exact(A7s ts w).trans (A7r ks _)
theorem A7r:∀(ks:List DD)(w:W),Rl w (C_ ks w).1
 |[],w=>by rw[C_];exact Rl.refl w
 |k::ks,w=>by
   by_cases h:w.err=0
   ·have h':¬w.err≠0:=λg=>g h;rw[C_,A7 h'];exact(A9K k w).trans (A7r ks _)
   ·rw[vQ h];exact Rl.refl w
end
theorem pI(e:Ex)(m:Nat):((J5 e m).1.err≠0->(W9 e m).err=(J5 e m).1.err/\(W9 e m).bad=(J5 e m).1.bad)/\((J5 e m).1.err=0->(W9 e m).err=0\/(W9 e m).err=7):=by
 have r:=(A7q (J5 e m).2.2 (J5 e m).1).trans (A9K (J5 e m).2.2 _);unfold W9;simp only;generalize hq:(BM (J5 e m).2.2 (AR (J5 e m).2.2 (J5 e m).1))=q at r ⊢;refine⟨λh=>?_,λh=>?_⟩
 ·have:=r.1 h;rw[this,A9 h];exact⟨rfl,rfl⟩
 ·split
  ·rename_i g;rcases r.2 h with k | k
   ·exact absurd k g
   ·exact .inr k
  ·exact .inl rfl
end
section
mutual
def Ty.Ed:Ty->List Int
 |.mk k n ts=>(if k=6 then[n]else[])++GI ts
def GI:List Ty->List Int
 |[]=>[]
 |t::ts=>t.Ed++GI ts
end
mutual
def Ty.rn(f:Int->Int):Ty->Ty
 |.mk k n ts=>.mk k (if k=6 then f n else n) (JZ f ts)
def JZ(f:Int->Int):List Ty->List Ty
 |[]=>[]
 |t::ts=>t.rn f::JZ f ts
end
theorem lV(f:Int->Int):∀ts:List Ty,JZ f ts=ts.map (Ty.rn f)
 |[]=>by rw[JZ];rfl
 |t::ts=>by rw[JZ,lV f ts];rfl
inductive Ty.Pl:Ty->Prop
 |mk (k n:Int) (ts:List Ty):(k=6->ts=[])->(k≠6->n=0)->(∀t∈ts,Ty.Pl t)->Ty.Pl (.mk k n ts)
def Ty.Pl.all{k n:Int}{ts:List Ty}(h:Ty.Pl (.mk k n ts)):(k=6->ts=[])/\(k≠6->n=0)/\∀t∈ts,Ty.Pl t:=by cases h;exact⟨‹_›,‹_›,‹_›⟩
def B6L(N:List Int)(t:Ty):t.Pl->Ht N t=t.rn (numOf N):=by
 induction t using Ty.ind with
 |h t ih=>
   cases t with
   |mk k n ts=>
     intro h;obtain⟨h1,h2,h3⟩:=h.all;rw[Ht,Ty.rn,lV];split
     ·rename_i g;rw[h1 g];rfl
     ·rename_i g;split
      ·rename_i g2;rw[zsq.1 g2];rfl
      ·rw[vG,h2 g];congr 1;exact zxq λk hk=>ih k hk (h3 k hk)
variable {t:Ty}
def Ty.Pl.rn(f:Int->Int):t.Pl->(t.rn f).Pl:=by
 induction t using Ty.ind with
 |h t ih=>
   cases t with
   |mk k n ts=>intro h;obtain⟨h1,h2,h3⟩:=h.all;rw[Ty.rn,lV];refine .mk _ _ _ (λg=>by rw[h1 g];rfl) (λg=>by rw[A7 g];exact h2 g) λt ht=>?_;obtain⟨u,hu,rfl⟩:=zlq.1 ht;exact ih u hu (h3 u hu)
mutual
theorem wu(f:Int->Int):∀t:Ty,(t.rn f).Ed=t.Ed.map f
 |.mk k n ts=>by rw[Ty.rn,Ty.Ed,Ty.Ed,A68 f ts,zuq];congr 1;split<;>rfl
theorem A68(f:Int->Int):∀ts:List Ty,GI (JZ f ts)=(GI ts).map f
 |[]=>by rw[JZ,GI];rfl
 |t::ts=>by rw[JZ,GI,GI,wu f t,A68 f ts,zuq]
end
mutual
theorem B1u(f g:Int->Int):∀t:Ty,(t.rn f).rn g=t.rn λv=>g (f v)
 |.mk k n ts=>by rw[Ty.rn,Ty.rn,Ty.rn,B3g f g ts];congr 1;split<;>rfl
theorem B3g(f g:Int->Int):∀ts:List Ty,JZ g (JZ f ts)=JZ (λv=>g (f v)) ts
 |[]=>by rw[JZ,JZ,JZ]
 |t::ts=>by rw[JZ,JZ,JZ,B1u f g t,B3g f g ts]
end
mutual
theorem A1Q{f g:Int->Int}:∀t:Ty,(∀v∈t.Ed,f v=g v)->t.rn f=t.rn g
 |.mk k n ts,h=>by
   rw[Ty.Ed]at h;rw[Ty.rn,Ty.rn,B3f ts λv hv=>h v (z3q _ hv)];congr 1;by_cases e:k=6
   ·rw[A9 e,A9 e];exact h n (z5q _ (by rw[A9 e];exact z6q.2 rfl))
   ·rw[A7 e,A7 e]
theorem B3f{f g:Int->Int}:∀ts:List Ty,(∀v∈GI ts,f v=g v)->JZ f ts=JZ g ts
 |[],_=>by rw[JZ,JZ]
 |t::ts,h=>by rw[GI]at h;rw[JZ,JZ,A1Q t λv hv=>h v (z5q _ hv),B3f ts λv hv=>h v (z3q _ hv)]
end
mutual
theorem A9R(f:Int->Int):∀t:Ty,(t.rn f).size=t.size
 |.mk k n ts=>by rw[Ty.rn,Ty.size_eq,Ty.size_eq,Ty.U7,Ty.U7,A7J f ts]
theorem A7J(f:Int->Int):∀ts:List Ty,((JZ f ts).map Ty.size)=ts.map Ty.size
 |[]=>by rw[JZ]
 |t::ts=>by rw[JZ,zqq,zqq,A9R f t,A7J f ts]
end
theorem Vb(v:Int)(vs N:List Int):Cu (v::vs) N=Cu vs (if v∈N then N else N++[v]):=rfl
def A0f(a b N:List Int):Cu (a++b) N=Cu b (Cu a N):=List.foldl_append ..
def A6X{x:Int}:∀(l N:List Int),x∈Cu l N↔x∈N\/x∈l
 |[],N=>by simp[Cu]
 |v::l,N=>by
   rw[Vb,A6X l];by_cases h:v∈N
   ·rw[A9 h,zgq];constructor
    ·rintro(g | g)
     ·exact .inl g
     ·exact .inr (.inr g)
    ·rintro(g | g | g)
     ·exact .inl g
     ·exact .inl (g ▸ h)
     ·exact .inr g
   ·rw[A7 h,zhq,z6q,zgq,or_assoc]
def A1B:∀(l N:List Int),N.Nodup->(Cu l N).Nodup
 |[],N,h=>h
 |v::l,N,h=>by
   rw[Vb];refine A1B l _ ?_;split
   ·exact h
   ·rename_i g;rw[zDq];exact⟨h,by simp,λa ha c hc=>by rw[z6q.1 hc];intro e;exact g (e ▸ ha)⟩
def A60{N:List Int}:∀(l M:List Int),(∀v∈l,v∉N)->Cu l (N++M)=N++Cu l M
 |[],M,_=>rfl
 |v::l,M,h=>by
   have hv:=h v (z0q ..);rw[Vb,Vb];have e:(if v∈N++M then N++M else(N++M)++[v])=N++(if v∈M then M else M++[v]):=by
    by_cases g:v∈M
    ·rw[A9 g,A9 (z3q _ g)]
    ·rw[A7 g,A7 (λh=>by rcases zhq.1 h with h | h;exact hv h;exact g h),z7q]
   rw[e];exact A60 l _ λw hw=>h w (z1q _ hw)
def A0g:∀(l N:List Int),∃M,Cu l N=N++M
 |[],N=>⟨[],by simp[Cu]⟩
 |v::l,N=>by
   rw[Vb];obtain⟨M,e⟩:=A0g l (if v∈N then N else N++[v]);rw[e];split
   ·exact⟨M,rfl⟩
   ·exact⟨[v]++M,by rw[z7q]⟩
def oM{f:Int->Int}:∀(l N:List Int),(∀a b,(a∈N\/a∈l)->(b∈N\/b∈l)->f a=f b->a=b)->Cu (l.map f) (N.map f)=(Cu l N).map f
 |[],N,_=>rfl
 |v::l,N,h=>by
   rw[zqq,Vb,Vb];have mem:f v∈N.map f↔v∈N:=by
    rw[zlq];constructor
    ·rintro⟨y,hy,e⟩;have:=h y v (.inl hy) (.inr (z0q ..)) e;rw[<- this];exact hy
    ·intro g;exact⟨v,g,rfl⟩
   by_cases g:v∈N
   ·rw[A9 g,A9 (mem.2 g)];exact oM l N λa b ha hb=>h a b (ha.imp_right (z1q _)) (hb.imp_right (z1q _))
   ·rw[A7 g,A7 (λk=>g (mem.1 k))];have:=oM (f:=f) l (N++[v]) λa b ha hb=>by
     refine h a b ?_ ?_
     ·rcases ha with ha | ha
      ·rcases zhq.1 ha with ha | ha
       ·exact .inl ha
       ·exact .inr (by rw[z6q.1 ha];exact z0q ..)
      ·exact .inr (z1q _ ha)
     ·rcases hb with ha | ha
      ·rcases zhq.1 ha with ha | ha
       ·exact .inl ha
       ·exact .inr (by rw[z6q.1 ha];exact z0q ..)
      ·exact .inr (z1q _ ha)
    rw[zuq]at this;exact this
variable (t:Ty)
def A80:∀l:List Int,t.Br l=Cu t.Ed l:=by
 induction t using Ty.ind with
 |h t ih=>
   cases t with
   |mk k n ts=>
     intro l;rw[Ty.Br,Ty.Ed,A0f];have e:(if k=6/\n∉l then l++[n]else l)=Cu (if k=6 then[n]else[]) l:=by
      by_cases g:k=6
      ·rw[A9 g,Vb];by_cases g2:n∈l
       ·rw[A9 g2,A7 (λh=>h.2 g2)];rfl
       ·rw[A7 g2,A9 ⟨g,g2⟩];rfl
      ·rw[A7 g,A7 (λh=>g h.1)];rfl
     rw[e];have key:∀(us:List Ty),(∀u∈us,u∈ts)->∀l:List Int,us.foldl (λl k=>k.Br l) l=Cu (GI us) l:=by
      intro us;induction us with
      |nil=>intro _ l;rw[GI];rfl
      |cons u us ihu=>intro hs l;rw[zKq,GI,A0f,ih u (hs u (z0q ..))];exact ihu (λw hw=>hs w (z1q _ hw)) _
     exact key ts (λu hu=>hu) _
def Lh:t.vars=Cu t.Ed []:=A80 t []
variable {t:Ty}{v:Int}
def Ju:v∈t.vars↔v∈t.Ed:=by rw[Lh,A6X];simp
def A18(t:Ty):t.vars.Nodup:=by rw[Lh];exact A1B _ _ List.nodup_nil
noncomputable def canon(t:Ty):Ty:=t.rn (numOf t.vars)
variable {N:List Int}
def A3T{M:List Int}(h:v∈N):numOf (N++M) v=numOf N v:=by unfold numOf;rw[A9 h,A9 (z5q _ h),zEq,A9 h]
def B2T{M:List Int}(h:v∉N)(hm:v∈M):numOf (N++M) v=numOf M v+N.length:=by unfold numOf;rw[A9 hm,A9 (z3q _ hm),zEq,A7 h];simp
def B1e(h:t.Pl){M:List Int}(hN:N=t.vars++M):Ht N t=canon t:=by rw[B6L N t h];exact A1Q t λv hv=>by rw[hN];exact A3T (Ju.2 hv)
mutual
theorem A6Z:∀(d:K8)(N:List Int),∃M,oL d N=N++M
 |.mk ts vs ks,N=>by
   rw[oL];have h1:∀(ts:List Ty)(N:List Int),∃M,ts.foldl (λN t=>Cu t.vars N) N=N++M:=by
    intro ts;induction ts with
    |nil=>intro N;exact⟨[],by simp⟩
    |cons t ts ih=>intro N;rw[zKq];obtain⟨M1,e1⟩:=A0g t.vars N;obtain⟨M2,e2⟩:=ih (Cu t.vars N);exact⟨M1++M2,by rw[e2,e1,z7q]⟩
   obtain⟨M1,e1⟩:=h1 ts N;obtain⟨M2,e2⟩:=A0g vs (ts.foldl (λN t=>Cu t.vars N) N);obtain⟨M3,e3⟩:=A3O ks (Cu vs (ts.foldl (λN t=>Cu t.vars N) N));exact⟨M1++M2++M3,by rw[e3,e2,e1];simp[z7q]⟩
theorem A3O:∀(ks:List K8)(N:List Int),∃M,Zl ks N=N++M
 |[],N=>⟨[],by rw[Zl];simp⟩
 |k::ks,N=>by rw[Zl];obtain⟨M1,e1⟩:=A6Z k N;obtain⟨M2,e2⟩:=A3O ks (oL k N);exact⟨M1++M2,by rw[e2,e1,z7q]⟩
end
def A3P:∀(l N:List Int),(N++l).Nodup->Cu l N=N++l
 |[],N,_=>by simp[Cu]
 |v::l,N,h=>by
   rw[Vb];have hv:v∉N:=λg=>by rw[zDq]at h;exact h.2.2 v g v (z0q ..) rfl
   have e:N++v::l=(N++[v])++l:=by simp
   rw[A7 hv,e];exact A3P l (N++[v]) (by rw[<- e];exact h)
def B6W(h:t.Pl)(d:K8):Ht (oL d (Cu t.vars [])) t=canon t:=by
 obtain⟨M,e⟩:=A6Z d (Cu t.vars []);have e2:Cu t.vars []=t.vars:=by have:=A3P t.vars [] (by simpa using A18 t);simpa using this
 exact B1e h (M:=M) (by rw[e,e2])
def B2S{f:Int->Int}(hf:∀a∈N,f a=f v->a=v):v∈N->numOf (N.map f) (f v)=numOf N v:=by
 intro hv;unfold numOf;rw[A9 hv,A9 (List.mem_map_of_mem hv)];congr 1;induction N with
 |nil=>cases hv
 |cons a N ih=>
   rw[zqq,zLq,zLq];by_cases e:a=v
   ·subst e;simp
   ·have e1:(a==v)=false:=by simp[e]
    have e2:(f a==f v)=false:=by rw[beq_eq_false_iff_ne];exact λg=>e (hf a (z0q ..) g)
    rw[e1,e2];simp only[cond_false];rw[ih (λb hb=>hf b (z1q _ hb)) (by rcases zgq.1 hv with h | h;exact absurd h.symm e;exact h)]
def B36{f:Int->Int}(hf:∀a b,a∈t.Ed->b∈t.Ed->f a=f b->a=b):canon (t.rn f)=canon t:=by
 have hv:(t.rn f).vars=t.vars.map f:=by rw[Lh,Lh,wu];have:=oM (f:=f) t.Ed [] λa b ha hb=>hf a b (by simpa using ha) (by simpa using hb);exact this
 unfold canon;rw[B1u,hv];exact A1Q t λv hm=>B2S (λa ha=>hf a v (Ju.1 ha) hm) (Ju.2 hm)
def B2R{a b:Int}(ha:a∈N)(hb:b∈N)(h:numOf N a=numOf N b):a=b:=by
 unfold numOf at h;rw[A9 ha,A9 hb]at h;have h:N.idxOf a=N.idxOf b:=by omega
 have l1:=zyq (z4q ha);have l2:=zyq (z4q hb);have:N[N.idxOf a]?=N[N.idxOf b]?:=by rw[h]
 rw[z2q (z4q ha),z2q (z4q hb),l1,l2]at this;exact Option.some.inj this
theorem B1d:∀{N:List Int},N.Nodup->N.map (numOf N)=(List.range N.length).map Int.ofNat:=by
 intro N h;refine List.ext_getElem (by simp) λi a c=>?_;have hi:i<N.length:=by simpa using a
 rw[zFq,zFq,List.getElem_range];unfold numOf;rw[A9 (List.getElem_mem hi),List.Nodup.idxOf_getElem h];rfl
def A0W(t:Ty):(canon t).vars=(List.range t.vars.length).map Int.ofNat:=by unfold canon;rw[Lh,wu];have:=oM (f:=numOf t.vars) t.Ed [] λa b ha hb=>B2R (Ju.2 (by simpa using ha)) (Ju.2 (by simpa using hb));rw[zIq]at this;rw[this,<- Lh,B1d (A18 t)]
def B0l{A B:Ty}(k:Int)(hk:k≠6)(dis:∀v∈A.Ed,v∉B.Ed):canon (.mk k 0 [A,B])=.mk k 0 [canon A,(canon B).rn λv=>v+A.vars.length]:=by
 have o:(Ty.mk k 0 [A,B]).Ed=A.Ed++B.Ed:=by rw[Ty.Ed,A7 hk,GI,GI,GI,zvq];rfl
 have hv:(Ty.mk k 0 [A,B]).vars=A.vars++B.vars:=by rw[Lh,o,A0f,<- Lh,Lh B];have:=A60 (N:=A.vars) B.Ed [] λv hv hA=>dis v (Ju.1 hA) hv;rw[zvq]at this;exact this
 unfold canon;rw[hv,Ty.rn,A7 hk,JZ,JZ,JZ,B1u];congr 2
 ·exact A1Q A λv hv=>A3T (Ju.2 hv)
 ·congr 1;exact A1Q B λv hv=>B2T (λhA=>dis v (Ju.1 hA) hv) (Ju.2 hv)
end
section
mutual
theorem B57(f:Nat->Nat):∀t:NT,(t.mp f).ty=t.ty.rn λv=>(f v.toNat:Int)
 |.mk r k ts=>by
   rw[NT.mp,NT.ty,NT.ty,Ty.rn,B3G f ts];by_cases h:k=6
   ·subst h;simp
   ·have:¬(k:Int)=6:=by omega
    simp[h,this]
theorem B3G(f:Nat->Nat):∀ts:List NT,NT.lu (NT.YR f ts)=JZ (λv=>(f v.toNat:Int)) (NT.lu ts)
 |[]=>by rw[NT.YR,NT.lu,JZ]
 |t::ts=>by rw[NT.YR,NT.lu,NT.lu,JZ,B57 f t,B3G f ts]
end
def A3V{v:Int}:∀{ts:List Ty},v∈GI ts->∃t∈ts,v∈t.Ed
 |[],h=>by rw[GI]at h;cases h
 |t::ts,h=>by
   rw[GI]at h;rcases zhq.1 h with h | h
   ·exact⟨t,z0q ..,h⟩
   ·obtain⟨u,hu,hv⟩:=A3V h;exact⟨u,z1q _ hu,hv⟩
def l_{S:E9}(ok:S.Ok)(t:NT):∀n,U9 S n t->t.ty.Pl/\∀v∈t.ty.Ed,∃r:Nat,v=(r:Int)/\5<=r/\r<S.l.length:=by
 induction t using NT.ind with
 |h r k ts ih=>
   intro n hu;obtain⟨d,d1,d2,d3,d4,d5⟩:=hu.nd;simp only[NT.JK,NT.VV,NT.U7]at d1 d3 d4 d5;have kd:=ok.ki _ _ d1;have hk:k=6->ts=[]:=λg=>by
    have:ts.length=0:=by rw[<- d4,kd.1,d3,g];rfl
    exact zsq.1 this
   have sub:∀u∈ts,∃m,U9 S m u:=λu h=>hu.kid (u:=u) h;rw[NT.ty,NT.wE];refine⟨.mk _ _ _ (λg=>?_) (λg=>?_) λt ht=>?_,λv hv=>?_⟩
   ·rw[hk (by omega),zIq]
   ·rw[A7 (by omega)]
   ·obtain⟨u,h1,rfl⟩:=zlq.1 ht;obtain⟨m,hm⟩:=sub u h1;exact(ih u h1 m hm).1
   ·rw[Ty.Ed]at hv;rcases zhq.1 hv with h | h
    ·by_cases g:k=6
     ·have g':(k:Int)=6:=by omega
      rw[A9 g',z6q,A9 g]at h;refine⟨r,h,?_,(ziq.1 d1).1⟩;rcases Nat.lt_or_ge r 5 with g5 | g5
      ·rw[ok.base r g5]at d1;cases d1;simp only at d3;omega
      ·exact g5
     ·have g':¬(k:Int)=6:=by omega
      rw[A7 g']at h;cases h
    ·obtain⟨t,ht,hv⟩:=A3V h;obtain⟨u,h1,rfl⟩:=zlq.1 ht;obtain⟨m,hm⟩:=sub u h1;exact(ih u h1 m hm).2 v hv
structure XF(e:Ex)(m:Nat):Prop where
 ok:(J5 e m).1.s.Ok
 mx:(J5 e m).1.s.mx=m
 lt:(J5 e m).2.1<(J5 e m).1.s.l.length
 root:∃ts vs ks,(J5 e m).2.2=.mk (J5 e m).2.1 ts vs ks
 bad:(J5 e m).1.err=0->(J5 e m).1.bad=P7
variable {m:Nat}
def A73(hm:m<=65536):j5 (⟨DX m,P7,0,[],[],[]⟩:W):=⟨RA hm,by simp,⟨by simp,by simp⟩,trivial⟩
def aK{e:Ex}(hr:e.right=true)(hs:e.size<2 ^ 29)(hm:m<=65536):XF e m:=by
 obtain⟨k1,k2,k3,k4⟩:=LF e.size e hr 1 [] _ (by omega) (A73 hm) (λx hx=>by cases hx);have b:=A55 e.size e hr 1 [] ⟨DX m,P7,0,[],[],[]⟩;refine⟨k1,k2.mx,k3,?_,λh=>(b h).2⟩;unfold J5;have:e.size≠0:=by have:=e.size_eq;omega
 obtain⟨f,hf⟩:=Nat.exists_eq_succ_of_ne_zero this;rw[hf,K9];exact⟨_,_,_,rfl⟩
def pJ{e:Ex}(x:XF e m)(h:(W9 e m).err=0):(J5 e m).1.err=0/\(W9 e m).ty=canon ((J5 e m).1.s.K5 (J5 e m).2.1).ty:=by
 have e0:(J5 e m).1.err=0:=by
  by_cases g:(J5 e m).1.err=0
  ·exact g
  ·exact absurd ((((pI e m).1 g).1).symm.trans h) g
 refine⟨e0,?_⟩;obtain⟨ts,vs,ks,hd⟩:=x.root;have k1:=x.ok;unfold W9 at h ⊢;simp only at h ⊢;by_cases g0:(BM (J5 e m).2.2 (AR (J5 e m).2.2 (J5 e m).1)).1.err=0
 ·have g0':¬(BM (J5 e m).2.2 (AR (J5 e m).2.2 (J5 e m).1)).1.err≠0:=λh=>h g0;rw[A7 g0'];simp only;have n0:=yo g0;rw[hd,AR,A7 (λh=>h e0)]at n0;have e':(({ (J5 e m).1 with s:=((J5 e m).1.s.read (J5 e m).2.1).1 }:W).fails ((J5 e m).1.s.read (J5 e m).2.1).2.2 P7)=(J5 e m).1.rd (J5 e m).2.1:=rfl;rw[e']at n0;obtain⟨a1,-,-,a4⟩:=oo k1 (J5 e m).2.1;have er:=(a4 ((YT ks _ a1).2 n0).1).2.1;have rd:=((lS k1 (J5 e m).2.1).2.2.2.2 er).2.2;rw[rd];exact B6W (l_ k1 _ _ (k1.K5 x.lt)).1 _
 ·rw[A9 (show _≠0 from g0)]at h;exact absurd h g0
def A8w(f:Nat)(e:Ex)(A8:Nat)(l:List EN)(w:W):K9 (f+1) e A8 l w=K9 (f+1) e A8 l { w with types:=[],vars:=[],D5:=[] }:=by simp only[K9]
def Mb.of(S:E9)(ok:S.Ok):Mb:=⟨S.l,S.l.length-5,0,S.mx,S.cnt,S.J8,by have:=ok.five;omega,ok.base⟩
def Mb.B8C{S:E9}(ok:S.Ok)(m:Nat):(Mb.of S ok).R5 (DX m)=S:=by
 cases S with
 |mk l mx cnt J8=>
   simp only[Mb.R5,Mb.of,DX,E9.mk.injEq];refine⟨?_,trivial,by omega,by omega⟩;have:((List.range 5).map λj=>(⟨j+1,0,none,[]⟩:Nd)).drop 5=[]:=by simp
   rw[this,zIq,zvq]
theorem B4V{p e f:Ex}(hk:p.E8=6)(EP:p.D5=[e,f])(hr:p.right=true)(hs:p.size<2 ^ 29)(hm:m<=65536):
 ((J5 e m).1.err≠0->(J5 p m).1.err=(J5 e m).1.err/\(J5 p m).1.bad=(J5 e m).1.bad) /\
 ((J5 e m).1.err=0->(J5 p m).1.err≠7->
   ((J5 f m).1.err≠0->(J5 p m).1.err=(J5 f m).1.err/\(J5 p m).1.bad=(J5 f m).1.bad) /\
   ((J5 f m).1.err=0->(J5 p m).1.err=0/\∃g:Nat->Nat,(∀a b,g a=g b->a=b)/\(∀v∈((J5 e m).1.s.K5 (J5 e m).2.1).ty.Ed,v∉(((J5 f m).1.s.K5 (J5 f m).2.1).ty.rn λv=>(g v.toNat:Int)).Ed) /\((J5 p m).1.s.K5 (J5 p m).2.1).ty=.mk 7 0 [((J5 e m).1.s.K5 (J5 e m).2.1).ty,((J5 f m).1.s.K5 (J5 f m).2.1).ty.rn λv=>(g v.toNat:Int)])):=by
 have he:e.right=true:=Ex.Bf hr (by rw[EP];exact z0q ..);have hf:f.right=true:=Ex.Bf hr (by rw[EP];exact z1q _ (z0q ..));have s1:e.size<p.size:=Ex.CG (by rw[EP];exact z0q ..);have s2:f.size<p.size:=Ex.CG (by rw[EP];exact z1q _ (z0q ..));have xe:=aK he (by omega) hm;have xf:=aK hf (by omega) hm;obtain⟨k,hpk⟩:∃k,p.size=k+1:=⟨p.size-1,by have:=p.size_eq;omega⟩;have kd0:p.kd 0=e:=by simp[Ex.kd,EP]
 have kd1:p.kd 1=f:=by simp[Ex.kd,EP]
 obtain⟨j,hfj⟩:∃j,f.size=j+1:=⟨f.size-1,by have:=f.size_eq;omega⟩
 let X:=J5 e m
 let w1:W:={ X.1 with types:=[],vars:=[],D5:=[X.2.2] }
 let b:=J2 (K9 k) w1 f 1 []
 have hX:K9 k e 1 [] ⟨DX m,P7,0,[],[],[]⟩=X:=by rw[nK k e.size e he (by omega) (zmq _)];rfl
 have hp:(J5 p m).1=(b.1.made 7 X.2.1 b.2).1/\(J5 p m).2.1=(b.1.made 7 X.2.1 b.2).2:=by
  have a1:J2 (K9 k) (⟨DX m,P7,0,[],[],[]⟩:W) e 1 []=(w1,X.2.1):=by unfold J2;rw[A7 (by simp),hX];rfl
  have:R7 (K9 k) (⟨DX m,P7,0,[],[],[]⟩:W) p 1 []=b.1.made 7 X.2.1 b.2:=by unfold R7;simp only[hk,kd0,kd1,a1];simp;rfl
  unfold J5;rw[hpk,K9];simp only;rw[this];exact⟨rfl,rfl⟩
 rw[hp.1,hp.2];have A0c:∀(w:W)(a c:Nat),w.err≠0->w.made 7 a c=(w,0):=λw a c h=>by unfold W.made;rw[A9 h]
 refine⟨λh=>?_,λh=>?_⟩
 ·have:b=(w1,0):=aA (w:=w1) h;have e1:(b.1.made 7 X.2.1 b.2)=(w1,0):=by rw[this];exact A0c w1 _ _ h
  rw[e1];exact⟨rfl,rfl⟩
 have ok1:=xe.ok;have f5:=ok1.five
 let E:=Mb.of X.1.s ok1
 let w1':W:={ X.1 with types:=[],vars:=[],D5:=[] }
 have hb:b=({ (K9 f.size f 1 [] w1').1 with types:=[],vars:=[],D5:=[X.2.2]++[(K9 f.size f 1 [] w1').2.2] },(K9 f.size f 1 [] w1').2.1):=by
  have:K9 k f 1 [] w1=K9 f.size f 1 [] w1':=by rw[nK k f.size f hf (by omega) (zmq _),hfj,A8w]
  show J2 (K9 k) w1 f 1 []=_;unfold J2;rw[A7 (show ¬w1.err≠0 from λg=>g h),this]
 have i1:j5 w1':=⟨ok1,by simp[w1'],⟨by simp[w1'],by simp[w1']⟩,trivial⟩;have i0:=A73 hm;have E0:∀n,Z5 n []:=λn x hx=>by cases hx
 have new:X.1.s=E.R5 (DX m):=(Mb.B8C ok1 m).symm;have rm:E.Rm (DX m):=by show X.1.s.mx<=m+X.1.s.cnt;have e:X.1.s.mx=m:=xe.mx;omega
 have H:SR (B2l E) (5:Nat) w1' ⟨DX m,P7,0,[],[],[]⟩:=⟨i1,i0,.inl ⟨by have e0:X.1.err=0:=h;show X.1.err≠7;omega,⟨⟨new,by simp[DX],rm⟩,h.symm,(xe.bad h).symm,.nil,.nil,KT.nil⟩⟩⟩;obtain⟨h1,-⟩:=A3w (B2l E) f.size f hf 1 1 [] [] (5:Nat) w1' _ ⟨zmq 1,rfl⟩ (by omega) (by omega) H h ⟨E0 _,E0 _,λ_=>.nil⟩;have hY:K9 f.size f 1 [] ⟨DX m,P7,0,[],[],[]⟩=J5 f m:=rfl;rw[hY]at h1;obtain⟨g1,g2,g3,-⟩:=LF f.size f hf 1 [] w1' (by omega) i1 (E0 _);generalize K9 f.size f 1 [] w1'=big at hb h1 g1 g2 g3;intro h7;have be:b.1.err=big.1.err:=by rw[hb]
 have bb:b.1.bad=big.1.bad:=by rw[hb]
 have bs:b.1.s=big.1.s:=by rw[hb]
 have b2:b.2=big.2.1:=by rw[hb]
 have B94:big.1.err≠7:=λg=>h7 (by rw[A0c _ _ _ (by rw[be];omega),be];exact g);obtain⟨o1,-,t,te,tb,n,-⟩:=h1 B94;refine⟨λhf0=>?_,λhf0=>?_⟩
 ·have:big.1.err≠0:=by rw[<- te];exact hf0
  rw[A0c _ _ _ (by rw[be];exact this),be,bb,te,tb];exact⟨rfl,rfl⟩
 ·have b0:big.1.err=0:=by rw[<- te];exact hf0
  have be0:b.1.err=0:=be.trans b0;have md:b.1.made 7 X.2.1 b.2=(({ b.1 with s:=(b.1.s.make 7 X.2.1 b.2).1 }:W).fails (b.1.s.make 7 X.2.1 b.2).2.2 P7,(b.1.s.make 7 X.2.1 b.2).2.1):=by unfold W.made;rw[A7 (λg=>g be0)]
  rw[md]at h7 ⊢;simp only at h7 ⊢;rw[EB _ _ _ (by exact be0)]at h7;rw[EB _ _ _ (by exact be0),X9];have fF:(b.1.s.make 7 X.2.1 b.2).2.2=0/\(b.1.s.make 7 X.2.1 b.2).1=b.1.s.add ⟨7,0,none,[X.2.1,b.2]⟩/\(b.1.s.make 7 X.2.1 b.2).2.1=b.1.s.l.length:=by
   unfold E9.make at h7 ⊢;split
   ·rename_i g;rw[A9 g]at h7;exact absurd rfl h7
   ·exact⟨rfl,by rw[A7 (by omega)],rfl⟩
  rw[fF.1,fF.2.1,fF.2.2];refine⟨rfl,E.rh,E.Vl,?_,?_⟩
  ·intro v hv hv2;obtain⟨r,rfl,r5,rl⟩:=(l_ ok1 _ _ (ok1.K5 xe.lt)).2 v hv;rw[wu,zlq]at hv2;obtain⟨u,hu,eq⟩:=hv2;obtain⟨q,rfl,q5,-⟩:=(l_ xf.ok _ _ (xf.ok.K5 xf.lt)).2 u hu;have:E.rh q=q+E.d:=Mb.pG E q5;have ed:E.d=X.1.s.l.length-5:=rfl;have rl:r<X.1.s.l.length:=rl;simp only[zzq]at eq;omega
  ·have Vg:b.1.s.Ok:=by rw[bs];exact g1
   have xl:X.2.1<b.1.s.l.length:=by rw[bs];exact Nat.lt_of_lt_of_le xe.lt g2.le
   have bl:b.2<b.1.s.l.length:=by rw[b2,bs];exact g3
   have u1:b.1.s.K5 X.2.1=X.1.s.K5 X.2.1:=by refine(U9.like (S:=X.1.s) (λn d hd=>⟨d,?_,rfl,rfl,rfl⟩) (ok1.K5 xe.lt)).eq;rw[bs,t.1,Mb.lo _ (by have:=(ziq.1 hd).1;show n<5+(X.1.s.l.length-5);omega)];exact hd
   have u2:b.1.s.K5 b.2=((J5 f m).1.s.K5 (J5 f m).2.1).mp E.rh:=by rw[bs,b2,t.1,n.1,Mb.K5 xf.ok xf.lt]
   have g:(b.1.s.add ⟨7,0,none,[X.2.1,b.2]⟩).l[b.1.s.l.length]?=some ⟨7,0,none,[X.2.1,b.2]⟩:=by simp[E9.add]
   have hu:U9 (b.1.s.add ⟨7,0,none,[X.2.1,b.2]⟩) b.1.s.l.length (.mk b.1.s.l.length 7 [b.1.s.K5 X.2.1,b.1.s.K5 b.2]):=.mk (.here g rfl) g rfl λi a c=>by
    have L:=Y6.add b.1.s ⟨7,0,none,[X.2.1,b.2]⟩
    match i,a,c with
    |0,_,_=>exact(Vg.K5 xl).like L
    |1,_,_=>exact(Vg.K5 bl).like L
   rw[hu.eq,NT.ty,NT.lu,NT.lu,NT.lu,u1,u2,B57];rfl
end
section
def Fv(vs:List Int)(n:Nat):List (Int×Ty):=vs.map λv=>(v,.mk 6 (n+v) [])
variable {vs:List Int}
def B6A{n:Nat}{v:Int}(h:v∈vs):look (Fv vs n) v=some (.mk 6 (n+v) []):=by
 unfold look Fv;induction vs with
 |nil=>cases h
 |cons a vs ih=>
   rw[zqq,List.find?_cons];by_cases e:a=v
   ·subst e;simp
   ·have:decide (a=v)=false:=by simp[e]
    simp only[this];exact ih (by rcases zgq.1 h with h | h;exact absurd h.symm e;exact h)
def B8K{n:Nat}(t:Ty):t.Pl->(∀v∈t.Ed,v∈vs)->t.put (Fv vs n)=t.rn λv=>v+n:=by
 induction t using Ty.ind with
 |h t ih=>
   cases t with
   |mk k m ts=>
     intro h hv;obtain⟨h1,h2,h3⟩:=h.all;rw[Ty.put,Ty.rn,lV];rw[Ty.Ed]at hv;by_cases g:k=6
     ·rw[A9 g,A9 g,h1 g,B6A (hv m (z5q _ (by rw[A9 g];exact z6q.2 rfl)))];rw[g,Option.getD_some,Int.add_comm];rfl
     ·rw[A7 g,A7 g];congr 1;refine zxq λt ht=>ih t ht (h3 t ht) λv Pf=>hv v (z3q _ ?_);have:∀(us:List Ty),t∈us->v∈GI us:=by
       intro us;induction us with
       |nil=>intro h;cases h
       |cons u us ihu=>
         intro h;rw[GI];rcases zgq.1 h with rfl | h
         ·exact z5q _ Pf
         ·exact z3q _ (ihu h)
      exact this ts ht
def B43{f:Int->Int}(t:Ty):t.Pl->t.right=true->(∀v∈t.Ed,0<=f v/\f v<=1048576)->(t.rn f).right=true:=by
 induction t using Ty.ind with
 |h t ih=>
   cases t with
   |mk k m ts=>
     intro h hr hv;obtain⟨h1,h2,h3⟩:=h.all;rw[Ty.right_eq]at hr;simp only[zkq,I6,znq]at hr;obtain⟨⟨⟨⟨r1,r2⟩,r3⟩,r4⟩,r5⟩:=hr;have r1:IJ k=ts.length:=r1;have r2:0<=m:=r2;have r3:m<=1048576:=r3;rw[Ty.Ed]at hv;rw[Ty.rn,lV,Ty.right_eq];simp only[zkq,I6,znq];have hn:0<=(if k=6 then f m else m)/\(if k=6 then f m else m)<=1048576/\((decide (k=6)||decide ((if k=6 then f m else m)=0))=true):=by
      by_cases g:k=6
      ·have:=hv m (z5q _ (by rw[A9 g];exact z6q.2 rfl));rw[A9 g];exact⟨this.1,this.2,by simp[g]⟩
      ·rw[A7 g];exact⟨r2,r3,by simp[g,h2 g]⟩
     refine⟨⟨⟨⟨by rw[Ty.U7,zwq];exact r1,hn.1⟩,hn.2.1⟩,hn.2.2⟩,λt ht=>?_⟩;obtain⟨u,hu,rfl⟩:=zlq.1 ht;refine ih u hu (h3 u hu) (r5 u hu) λv Pf=>hv v (z3q _ ?_);have:∀(us:List Ty),u∈us->v∈GI us:=by
      intro us;induction us with
      |nil=>intro h;cases h
      |cons w us ihu=>
        intro h;rw[GI];rcases zgq.1 h with rfl | h
        ·exact z5q _ Pf
        ·exact z3q _ (ihu h)
     exact this ts hu
def B3H{S:E9}(ok:S.Ok)(t:NT):∀n,U9 S n t->t.ty.right=true:=by
 induction t using NT.ind with
 |h r k ts ih=>
   intro n hu;obtain⟨d,d1,d2,d3,d4,d5⟩:=hu.nd;simp only[NT.JK,NT.VV,NT.U7]at d1 d3 d4 d5;have kd:=ok.ki _ _ d1;have rl:=(ziq.1 d1).1;have:=ok.lc;have:=ok.cm;have:=ok.mm;rw[NT.ty,NT.wE,Ty.right_eq];simp only[zkq,I6,znq];refine⟨⟨⟨⟨?_,by rw[Ty.XA];split<;>omega⟩,by rw[Ty.XA];split<;>omega⟩,?_⟩,λt ht=>?_⟩
   ·rw[Ty.U7,Ty.IW,zwq,<- d4,kd.1,d3];have k1:=kd.2.1;have k9:=kd.2.2.1;rw[d3]at k1 k9;unfold IJ NH;have:k=1\/k=2\/k=3\/k=4\/k=5\/k=6\/k=7\/k=8\/k=9:=by omega
    rcases this with rfl | rfl | rfl | rfl | rfl | rfl | rfl | rfl | rfl<;>rfl
   ·by_cases g:k=6
    ·subst g;rfl
    ·rw[Ty.XA,A7 g];simp
   ·obtain⟨u,h1,rfl⟩:=zlq.1 ht;obtain⟨m,hm⟩:=hu.kid (u:=u) h1;exact ih u h1 m hm
def B4P{N:List Int}{v:Int}:0<=numOf N v/\(N≠[]->numOf N v<N.length):=by
 unfold numOf;by_cases h:v∈N
 ·rw[A9 h];have:=z4q h;exact⟨by omega,λ_=>by omega⟩
 ·rw[A7 h];refine⟨by omega,λg=>?_⟩;have:=List.length_pos_iff.2 g;omega
def A8g{t:Ty}(h:t.Pl)(hr:t.right=true)(hs:t.vars.length<=1048576):(canon t).right=true :=B43 t h hr λv hv=>by have m:=Ju.2 hv;obtain⟨a,c⟩:=B4P (N:=t.vars) (v:=v);have:=c (List.ne_nil_of_mem m);omega
structure TyF(t:Ty):Prop where
 pl:t.Pl
 right:t.right=true
 vars:t.vars=(List.range t.vars.length).map Int.ofNat
 size:t.size<=65536
def A0r{e:Ex}(hr:e.right=true)(hs:e.size<2 ^ 29){m:Nat}(hm:m<=65536)(h:(W9 e m).err=0):TyF (W9 e m).ty:=by
 have x:=aK hr hs hm;have sz:=(A7v hr hs hm).1;obtain⟨-,e1⟩:=pJ x h;have p:=(l_ x.ok _ _ (x.ok.K5 x.lt)).1;have r:=B3H x.ok _ _ (x.ok.K5 x.lt);have vl:((J5 e m).1.s.K5 (J5 e m).2.1).ty.vars.length<=65536:=by rw[e1]at sz;unfold canon at sz;rw[A9R]at sz;have:=((J5 e m).1.s.K5 (J5 e m).2.1).ty.qD [];simp only[zdq]at this;unfold Ty.vars;omega
 refine⟨by rw[e1];exact p.rn _,by rw[e1];exact A8g p r (by omega),?_,sz⟩;rw[e1,A0W];simp
def B20{p e f:Ex}(hk:p.E8=6)(EP:p.D5=[e,f])(hr:p.right=true)(hs:p.size<2 ^ 29){m:Nat}(hm:m<=65536)(h1:(W9 e m).err≠7)(h2:(W9 f m).err≠7)(h3:(W9 p m).err≠7):
 ((W9 e m).err≠0->(W9 p m).err=(W9 e m).err/\(W9 p m).bad=(W9 e m).bad) /\
 ((W9 e m).err=0->(W9 f m).err≠0->(W9 p m).err=(W9 f m).err/\(W9 p m).bad=(W9 f m).bad) /\
 ((W9 e m).err=0->(W9 f m).err=0->(W9 p m).err=0/\(W9 p m).ty=.mk 7 0 [(W9 e m).ty,(W9 f m).ty.put (Fv (W9 f m).ty.vars (W9 e m).ty.vars.length)]):=by
 have he:e.right=true:=Ex.Bf hr (by rw[EP];exact z0q ..);have hf:f.right=true:=Ex.Bf hr (by rw[EP];exact z1q _ (z0q ..));have s1:e.size<p.size:=Ex.CG (by rw[EP];exact z0q ..);have s2:f.size<p.size:=Ex.CG (by rw[EP];exact z1q _ (z0q ..));obtain⟨P1,P2⟩:=B4V hk EP hr hs hm;obtain⟨E1,E2⟩:=pI e m;obtain⟨F1,F2⟩:=pI f m;obtain⟨G1,G2⟩:=pI p m;have one:∀{x:Ex},((J5 x m).1.err=0->(W9 x m).err=0\/(W9 x m).err=7)->(W9 x m).err≠7->(W9 x m).err≠0->(J5 x m).1.err≠0:=λh a c g=>by
  rcases h g with k | k
  ·exact c k
  ·exact a k
 have two:∀{x:Ex},((J5 x m).1.err≠0->(W9 x m).err=(J5 x m).1.err/\(W9 x m).bad=(J5 x m).1.bad)->(W9 x m).err=0->(J5 x m).1.err=0:=λh a=>by
  rcases Nat.eq_zero_or_pos (J5 _ m).1.err with g | g
  ·exact g
  ·have:=(h (by omega)).1;omega
 have p7:(J5 p m).1.err≠7:=λg=>h3 (by rw[(G1 (by omega)).1];exact g);refine⟨λg=>?_,λg0 g=>?_,λg0 g1=>?_⟩
 ·have x0:=one E2 h1 g;obtain⟨a,c⟩:=P1 x0;have y0:(J5 p m).1.err≠0:=by rw[a];exact x0
  rw[(G1 y0).1,(G1 y0).2,(E1 x0).1,(E1 x0).2];exact⟨a,c⟩
 ·have x0:=two E1 g0;have x1:=one F2 h2 g;obtain⟨a,c⟩:=(P2 x0 p7).1 x1;have y0:(J5 p m).1.err≠0:=by rw[a];exact x1
  rw[(G1 y0).1,(G1 y0).2,(F1 x1).1,(F1 x1).2];exact⟨a,c⟩
 ·have x0:=two E1 g0;have x1:=two F1 g1;obtain⟨a,g,gi,dis,ty⟩:=(P2 x0 p7).2 x1;have p0:(W9 p m).err=0:=by
   rcases G2 a with k | k
   ·exact k
   ·exact absurd k h3
  refine⟨p0,?_⟩;have xe:=aK he (by omega) hm;have xf:=aK hf (by omega) hm;have xp:=aK hr hs hm;have T1:=(pJ xe g0).2;have T2:=(pJ xf g1).2;rw[(pJ xp p0).2,ty,B0l 7 (by omega) dis,B36]
  ·rw[B8K _ (A0r hf (by omega) hm g1).pl λv hv=>Ju.2 hv,T1,T2,A0W,zwq,List.length_range]
  ·intro a c ha hc h;obtain⟨q,rfl,-⟩:=(l_ xf.ok _ _ (xf.ok.K5 xf.lt)).2 a ha;obtain⟨r,rfl,-⟩:=(l_ xf.ok _ _ (xf.ok.K5 xf.lt)).2 c hc;simp only[zzq]at h;have:=gi q r (by omega);omega
end
section
def xB:ByteArray:=⟨#[120]⟩
def LV(k lo hi:Int)(s:ByteArray):Ex:=.mk k lo hi s Y4 0 Y4 0 (.mk 0 0 []) (.mk 0 0 []) [] []
def NM:Ex:=.mk 9 0 0 xB Y4 0 Y4 0 (.mk 0 0 []) (.mk 0 0 []) [] [LV 1 0 0 xB]
def IX:Ex:=.mk 16 0 0 Y4 Y4 0 Y4 1 (.mk 0 0 []) (.mk 0 0 []) [] [LV 2 0 0 Y4,LV 5 4 6 Y4]
variable (c:Nat)
def sId:E9:=⟨[⟨1,0,none,[]⟩,⟨2,0,none,[]⟩,⟨3,0,none,[]⟩,⟨4,0,none,[]⟩,⟨5,0,none,[]⟩,⟨6,1,none,[]⟩,⟨9,0,none,[5,5]⟩],100,c,0⟩
def B0V:NM.size=2:=by simp[Ex.size_eq,NM,LV]
def B22:IX.size=3:=by simp[Ex.size_eq,IX,LV]
theorem C0s:J5 NM 100=(⟨sId 2,P7,0,[5],[],[.mk 5 [] [] []]⟩,6,.mk 6 [5] [] [.mk 5 [] [] []]):=by unfold J5;rw[B0V];rfl
def B46:U9 (sId c) 5 (.mk 5 6 []):=.mk (d:=⟨6,1,none,[]⟩) (.here rfl rfl) rfl rfl λi h _=>by cases h
def C0C:U9 (sId c) 6 (.mk 6 9 [.mk 5 6 [],.mk 5 6 []]):=.mk (d:=⟨9,0,none,[5,5]⟩) (.here rfl rfl) rfl rfl λi h h'=>match i,h,h' with
 |0,_,_=>B46 c
 |1,_,_=>B46 c
def A9J{S:E9}{n:Nat}{t:NT}(k:Nat)(hu:U9 S n t)(hk:t.Bu (S.mx-S.cnt)=k)(hl:k<=S.mx-S.cnt):S.read n=({ S with cnt:=S.cnt+k },t.ty,0):=by unfold E9.read;rw[hu.eq];subst hk;exact A7 (Nat.not_lt.2 hl)
theorem A7y:(sId c).mx-(sId c).cnt=100-c:=rfl
def B8i(h:c<100):(sId c).read 5=(sId (c+1),.mk 6 5 [],0) :=A9J 1 (B46 c) (by rw[NT.Bu,NT.Le]) (by rw[A7y];omega)
def B8j(h:c<97):(sId c).read 6=(sId (c+3),.mk 9 0 [.mk 6 5 [],.mk 6 5 []],0) :=A9J 3 (C0C c) (by rw[A7y];simp only[NT.Bu,NT.Le];omega) (by rw[A7y];omega)
def v5:(Ty.mk 6 5 []).vars=[5]:=by simp[Ty.vars,Ty.Br]
def v55:(Ty.mk 9 0 [.mk 6 5 [],.mk 6 5 []]).vars=[5]:=by simp[Ty.vars,Ty.Br]
def C0r:(W9 NM 100).err=0/\(W9 NM 100).cnt=7/\(W9 NM 100).ty=.mk 9 0 [.mk 6 0 [],.mk 6 0 []]/\(W9 NM 100).dv.types.length=1:=by unfold W9;rw[C0s];simp[AR,LY,BM,C_,Ar,W.fails,B8i,B8j,Ht,Zn,Vf,Cu,oL,Zl,v5,v55];exact⟨rfl,rfl⟩
theorem B9D:J5 NM 1=(⟨⟨[⟨1,0,none,[]⟩,⟨2,0,none,[]⟩,⟨3,0,none,[]⟩,⟨4,0,none,[]⟩,⟨5,0,none,[]⟩,⟨6,1,none,[]⟩],1,1,0⟩,P7,7,[5],[],[.mk 5 [] [] []]⟩,0,.mk 0 [5] [] [.mk 5 [] [] []]):=by unfold J5;rw[B0V];rfl
def B9C:(W9 NM 1).err=7:=by unfold W9;rw[B9D];simp[AR,BM,Ar,C_]
def A64{m j:Nat}(hm:m<=65536)(hj:j<5):(DX m).root j=j:=by have ok:=RA hm;have g:=ok.base j hj;exact(X6.here g rfl).eq (ok.wf j (by have:=ok.five;omega))
def A63{m j:Nat}(hm:m<=65536)(hj:j<5):(DX m).F9 j=j+1:=DU ((RA hm).base j hj)
def B59:(DX 100).agree 0 0=(DX 100,0,0,0):=by have ok:=RA (mx:=100) (by omega);have f5:=ok.five;refine zN (f:=2) ok (by omega) (by omega) ?_;rw[Y8,A9 rfl,E9.Q6]
def B6a:(DX 100).agree 3 0=(DX 100,4,1,4):=by have ok:=RA (mx:=100) (by omega);have f5:=ok.five;refine zN (f:=2) ok (by omega) (by omega) ?_;rw[Y8];simp[A64 (m:=100) (j:=3) (by omega) (by omega),A64 (m:=100) (j:=0) (by omega) (by omega),A63 (m:=100) (j:=3) (by omega) (by omega),A63 (m:=100) (j:=0) (by omega) (by omega)]
def B8I:(J5 IX 100).1.err=4/\(J5 IX 100).1.bad=⟨4,6,4,4,1,Y4⟩:=by unfold J5;rw[B22];simp[K9,R7,FE,J2,IX,LV,W.agree,W.fails,B59,B6a]
def B6X{e:Ex}{m:Nat}(h:(J5 e m).1.err≠0):(W9 e m).err=(J5 e m).1.err/\(W9 e m).bad=(J5 e m).1.bad:=by
 unfold W9;simp only;rw[A1G h];have z:(BM (J5 e m).2.2 (J5 e m).1).1=(J5 e m).1:=by
  cases(J5 e m).2.2 with
  |mk n ts vs ks=>rw[BM,vT h];simp only;rw[vQ h]
 rw[z,A9 h];exact⟨rfl,rfl⟩
def B8H:(W9 IX 100).err=4/\(W9 IX 100).bad=⟨4,6,4,4,1,Y4⟩:=by obtain⟨a,c⟩:=B8I;obtain⟨x,y⟩:=B6X (e:=IX) (m:=100) (by omega);exact⟨x.trans a,y.trans c⟩
end
noncomputable section
open Go.Proofs
open Tryz
def spread{α : Type}(d : α):Nat->Nat->List (Nat×α)->List α
 |0,_,_=>[]
 |n+1,i,[]=>d::spread d n (i+1) []
 |n+1,i,(j,x)::l=>match Nat.beq i j with
   |true=>x::spread d n (i+1) l
   |false=>d::spread d n (i+1) ((j,x)::l)
def bxs(d:DV):Nat->Nat->List (DV×F4)
 |_,0=>[]
 |i,n+1=>(C8 i d,.val)::bxs d (i+1) n
def mst(n:Nat)(a:List (Nat×DV))(b:List (Nat×F4))(c:List (Nat×Option (List (DV×F4))))(g:List E5):St:=⟨spread .undef n 0 a,spread .val n 0 b,spread none n 0 c,g⟩
abbrev sF:Option DV:=some (.bool false)
abbrev sT:Option DV:=some (.bool true)
abbrev dM(l:List DV):List DV:=(.str ⟨#[]⟩)::(.int .i64 0)::(.str ⟨#[]⟩)::(.int .i64 0)::(.int .i64 0)::(.int .i64 0)::(.list 3 [])::(.int .i64 0)::(.int .i64 0)::(.list 3 [])::(.list 7 [])::(.list 16 [])::l
abbrev Pm(l:List DV):List DV:=(.bool false)::(.bool false)::(.bool false)::(.bool false)::l
abbrev Fq(l:List DV):List DV:=(.int .i64 0)::(.int .i64 0)::(.list 3 [])::l
abbrev J_(l:List DV):List DV:=(.int .i64 0)::(.int .i64 0)::(.str ⟨#[]⟩)::l
abbrev zz4(l:List (DV×F4)):List (DV×F4):=(.int .i64 0,.val)::(.int .i64 0,.val)::(.int .i64 0,.val)::(.int .i64 0,.val)::(.int .i64 0,.val)::(.str ⟨#[]⟩,.val)::l
abbrev zz5(l:List DV):List DV:=(.str ⟨#[]⟩)::(.int .i64 0)::(.str ⟨#[]⟩)::l
abbrev wH(l:List DV):List DV:=(.int .i64 0)::(.int .i64 0)::(.int .i64 0)::l
abbrev zz7(l:List DV):List DV:=(.int .i64 0)::(.list 1 [])::(.list 1 [])::(.list 4 [])::l
abbrev dU:FuncId:=7
abbrev gN:FuncId:=9
abbrev Ck:FuncId:=11
abbrev SC:FuncId:=13
abbrev JV:FuncId:=16
abbrev SF:FuncId:=17
abbrev XN:FuncId:=20
abbrev sO:FuncId:=25
abbrev ZP:FuncId:=27
abbrev ZQ:FuncId:=29
abbrev WW:FuncId:=30
abbrev Xc:FuncId:=31
abbrev Sk:FuncId:=32
abbrev gM:FuncId:=35
abbrev ZT:FuncId:=36
abbrev UJ:FuncId:=39
abbrev gV:FuncId:=40
abbrev Bt:FuncId:=41
abbrev FI:FuncId:=42
abbrev GM:FuncId:=43
abbrev U1:FuncId:=44
abbrev ZV:FuncId:=45
abbrev Dc:FuncId:=46
abbrev IB:FuncId:=47
abbrev GK:FuncId:=48
abbrev KA:FuncId:=49
abbrev Oq:FuncId:=50
abbrev mD:FuncId:=64
abbrev sP:FuncId:=65
abbrev WV:FuncId:=66
abbrev mF:FuncId:=69
abbrev ZR:FuncId:=73
abbrev OZ:FuncId:=74
abbrev UH:FuncId:=75
abbrev OX:FuncId:=76
abbrev mH:FuncId:=78
abbrev KF:FuncId:=79
abbrev O7:FuncId:=80
abbrev BI:FuncId:=81
abbrev Z6:FuncId:=82
abbrev KE:FuncId:=83
abbrev FJ:FuncId:=84
abbrev DK:FuncId:=85
abbrev Kk:FuncId:=86
abbrev Kn:FuncId:=87
abbrev Ko:FuncId:=88
abbrev KD:FuncId:=89
abbrev Ir:FuncId:=90
abbrev He:FuncId:=91
abbrev R9:FuncId:=92
abbrev ME:FuncId:=93
abbrev Hf:FuncId:=94
abbrev S9:FuncId:=95
abbrev ZW:FuncId:=96
abbrev zK:FuncId:=115
abbrev UG:FuncId:=116
abbrev aL:FuncId:=118
abbrev ZU:FuncId:=119
abbrev Kq:FuncId:=120
abbrev dV:FuncId:=121
abbrev gU:FuncId:=122
abbrev XP:FuncId:=125
abbrev FK:FuncId:=126
abbrev Qm:FuncId:=127
abbrev WX:FuncId:=130
abbrev SG:FuncId:=131
abbrev OY:FuncId:=132
abbrev Sm:FuncId:=133
abbrev PL:FuncId:=134
abbrev Pq:FuncId:=135
abbrev Eg:FuncId:=136
abbrev Ii:FuncId:=137
abbrev Y5:FuncId:=138
abbrev DL:FuncId:=139
abbrev aM:FuncId:=140
abbrev Iq:FuncId:=141
abbrev gP:FuncId:=142
abbrev Rq:FuncId:=143
abbrev Sl:FuncId:=144
abbrev Y2:FuncId:=145
abbrev Iy:FuncId:=146
abbrev GR:FuncId:=147
abbrev mG:FuncId:=155
abbrev SE:FuncId:=161
abbrev mE:FuncId:=162
abbrev sN:FuncId:=163
abbrev XO:FuncId:=164
abbrev gW:FuncId:=165
abbrev mI:FuncId:=166
abbrev aN:FuncId:=167
abbrev UK:FuncId:=168
abbrev YZ:FuncId:=170
abbrev Q7:FuncId:=171
abbrev EG:FuncId:=172
abbrev Eh:FuncId:=173
abbrev Iw:FuncId:=174
abbrev BK:FuncId:=175
abbrev Ps:FuncId:=177
abbrev Kr:FuncId:=178
abbrev GQ:FuncId:=179
abbrev IC:FuncId:=180
abbrev UI:FuncId:=181
abbrev MG:FuncId:=182
abbrev KG:FuncId:=183
abbrev Qn:FuncId:=184
abbrev gT:FuncId:=197
abbrev Sn:FuncId:=198
abbrev Kt:FuncId:=201
abbrev CV:FuncId:=202
abbrev MF:FuncId:=203
abbrev gQ:FuncId:=204
abbrev KH:FuncId:=205
abbrev NS:FuncId:=206
abbrev Ef:FuncId:=207
abbrev Iu:FuncId:=208
abbrev Ca:FuncId:=214
abbrev KW:FuncId:=215
def Nh:H8:={ Q4:=[14,103,124],keep:=[(6,[5,6,7,8,9,10,11,12,13],[5,6,8,9,11,12],[],[5,6,7,8,9,10,11,12,13]),(15,[5,8,11,13,14,15,16],[5,8,11],[14],[5,8,11,13,15,16])] }
def bH:H8:={ keep:=[(5,[0,3,4],[],[],[0,3,4])] }
def bD:H8:={ shared:=[23],keep:=[(11,[4,5,7,10,11,12,50,51,52],[4,5,10,11],[],[4,5,7,10,11,12,50,51,52])] }
def bF:H8:={ keep:=[(4,[2,3,5],[2,3],[],[2,3,5])] }
def bI:H8:={ keep:=[(5,[1,3,4,6,7,10],[1,4,6],[],[1,3,4,6,7,10])] }
def Uz:H8:={ keep:=[(4,[1,3],[1],[],[1,3]),(9,[1,4],[1],[],[1,4])] }
def bK:H8:={ keep:=[(4,[1,3],[1],[],[1,3])] }
def ng:H8:={ keep:=[(2,[0,1,5],[],[],[0,1,5])] }
def yM:H8:={}
def yQ:H8:={ Q4:=[2] }
def VA:H8:={ keep:=[(5,[1,2,4,6,16,17,18],[2,4],[],[1,2,4,6,16,17,18])] }
def A1l:H8:={}
def Wt:H8:={ keep:=[(4,[1,2,5],[2],[],[1,2,5])] }
def bG:H8:={ keep:=[(3,[0,3,4],[],[],[0,3,4])] }
def iW:H8:={ keep:=[(3,[1,3,4],[1],[],[1,3,4])] }
def OT:H8:={ shared:=[1,2],keep:=[(2,[2,6],[],[],[2,6])] }
def bM:H8:={ shared:=[10],Dn:=[21,25],keep:=[(3,[3,11,12,13],[],[],[3,11,12,13])] }
def TF:j3:={ params:=[.val],results:=[.ptr] }
def JD:H8:={ shared:=[10],grow:=[(1,10,[1])],keep:=[(20,[0,2,3,5,9,10,11,17],[5,9],[],[0,2,3,5,9,10,11,17]),(39,[9,10,11],[9],[],[9,10,11])] }
def Et:j3:={ params:=[.val,.val,.val,.val],results:=[.val,.val] }
def Mh:H8:={ keep:=[(6,[0,4,5,28,29,30],[4,5],[],[0,4,5,28,29,30])] }
def HZ:j3:={ params:=[.val,.val],results:=[.val] }
def JF:H8:={ Q4:=[40,58],keep:=[(3,[0,3,4,5,16,17,18],[3,4,5],[5],[0,3,4,16,17,18]),(12,[0,4,5,47,48,49],[4,5],[5],[0,4,47,48,49])] }
def Ev:j3:={ params:=[.val,.val],results:=[.val] }
def YF:H8:={}
def Oz:j3:={ params:=[.val],results:=[.val] }
def yS:H8:={ Q4:=[2] }
def Tk:H8:={}
def Ls:j3:={ params:=[.val,.val],results:=[] }
def Cr:H8:={ keep:=[(2,[0,3,13,14,15],[3],[],[0,3,13,14,15]),(5,[0,3,13,14,15,20,21,22],[3],[],[0,3,13,14,15,20,21,22]),(11,[0,3,32,33,34],[3],[],[0,3,32,33,34]),(16,[0,43,44,45],[],[],[0,43,44,45])] }
def BO:j3:={ params:=[.val,.val],results:=[] }
def Ng:H8:={ Q4:=[33],keep:=[(8,[0,4,5,26,27,28],[4,5],[5],[0,4,26,27,28])] }
def IZ:j3:={ params:=[.val,.val],results:=[.val] }
def FP:H8:={ Q4:=[20,36,52],keep:=[(3,[0,3,4,5,13,14,15],[3,4,5],[5],[0,3,4,13,14,15]),(8,[0,3,4,5,29,30,31],[3,4,5],[5],[0,3,4,29,30,31]),(13,[0,4,5,45,46,47],[4,5],[5],[0,4,45,46,47])] }
def DJ:j3:={ params:=[.val,.val],results:=[.val] }
def VC:H8:={}
def ND:j3:={ params:=[.val],results:=[.val] }
def A3z:H8:={}
def Zd:H8:={ keep:=[(4,[1,3],[1,3],[],[1,3]),(6,[1],[1],[],[1])] }
def U_:H8:={ keep:=[(5,[3,4],[],[],[3,4])] }
def yO:H8:={}
def XU:H8:={ Q4:=[1,4,16,33,35],keep:=[(3,[1,2],[2],[1],[2]),(4,[1,2,5],[2],[1],[2,5])] }
def Qh:j3:={ params:=[.val,.own],results:=[.own] }
def uV:H8:={}
def Yf:H8:={ Q4:=[45],keep:=[(10,[1,2,6,9,38,39,40],[6,9],[9],[1,2,6,38,39,40])] }
def RN:j3:={ params:=[.val,.val,.val],results:=[.val] }
def Mi:H8:={ keep:=[(5,[1,2,5],[2],[],[1,2,5]),(8,[1,2],[2],[],[1,2]),(9,[1,2,6],[2],[],[1,2,6]),(12,[1,2],[2],[],[1,2])] }
def EM:H8:={ keep:=[(4,[1,3],[1,3],[],[1,3]),(6,[1,3],[1,3],[],[1,3]),(8,[1,3],[1,3],[],[1,3]),(10,[1,3],[1,3],[],[1,3]),(12,[1,3],[1,3],[],[1,3]),(14,[1,3],[1,3],[],[1,3]),(16,[1,3],[1,3],[],[1,3]),(18,[1],[1],[],[1]),(19,[176,177,178],[],[],[176,177,178])] }
def JE:H8:={ Oy:=[46,51],keep:=[(2,[0,2,3,4,6,11],[6],[],[0,2,3,4,6,11]),(9,[0,2,4,12,39,40],[12],[],[0,2,4,12,39,40])] }
def Eu:j3:={ params:=[.val,.val,.val,.val,.val],results:=[.val] }
def WJ:H8:={ Q4:=[33],opn:=[37,38],B52:=[(4,40)] }
def Nv:j3:={ params:=[.val,.val,.val,.val,.val,.val],results:=[.val] }
def Ux:H8:={}
def NC:j3:={ params:=[.val,.val,.val,.val],results:=[.val] }
def Tq:H8:={}
def Lv:j3:={ params:=[.val,.val],results:=[.val] }
def Uw:H8:={}
def NB:j3:={ params:=[.val,.val,.val,.val,.val],results:=[.val] }
def Tt:H8:={ Oy:=[23,26] }
def Lx:j3:={ params:=[.val,.val,.val,.val],results:=[.val] }
def qY:H8:={ Q4:=[4] }
def XJ:j3:={ params:=[.val,.val],results:=[.own] }
def WI:H8:={}
def Nu:j3:={ params:=[.val,.val,.val,.val,.val],results:=[.val] }
def Ot:H8:={ keep:=[(12,[0,2,3,4,6,11],[6,11],[],[0,2,3,4,6,11])] }
def JM:j3:={ params:=[.val,.val,.val,.val,.val],results:=[.val] }
def Ou:H8:={ keep:=[(9,[0,2,3,4,6,13],[6,13],[],[0,2,3,4,6,13])] }
def JN:j3:={ params:=[.val,.val,.val,.val,.val],results:=[.val] }
def Uv:H8:={}
def NA:j3:={ params:=[.val,.val,.val,.val,.val],results:=[.val] }
def IR:H8:={ Q4:=[20,87,102],keep:=[(7,[0,2,3,4,6,12,13,51,52,53],[6],[],[0,2,3,4,6,12,13,51,52,53]),(15,[0,2,3,4,6,12,13,14,17,20,51,52,53,80,81,82],[6],[20],[0,2,3,4,6,12,13,14,17,51,52,53,80,81,82])] }
def ET:j3:={ params:=[.val,.val,.val,.val,.val],results:=[.val] }
def WK:H8:={}
def Nw:j3:={ params:=[.val,.val],results:=[.val] }
def Tn:H8:={}
def Lt:j3:={ params:=[.val,.val,.val,.val],results:=[] }
def LJ:H8:={ keep:=[(8,[0,2,3,4,6,11,12],[6],[],[0,2,3,4,6,11,12]),(9,[0,2,3,4,6,11,12,23,24,25],[6],[],[0,2,3,4,6,11,12,23,24,25])] }
def GX:j3:={ params:=[.val,.val,.val,.val,.val],results:=[.val] }
def WO:H8:={ shared:=[26],Hr:=[23,24],B5U:=[(25,[23,24])] }
def OB:j3:={ params:=[.val,.val],results:=[.val,.val] }
def Tp:H8:={}
def Lu:j3:={ params:=[.val,.val,.val],results:=[] }
def XV:H8:={ Q4:=[2,6,17,36,39],keep:=[(5,[1,2,3],[3],[2],[1,3]),(6,[1,2,28,29,30],[],[2],[1,28,29,30])] }
def Qj:j3:={ params:=[.val,.val,.own],results:=[.own] }
def uS:H8:={ keep:=[(2,[0,1,5],[],[],[0,1,5])] }
def iV:H8:={ keep:=[(4,[2,3,5],[2,3],[],[2,3,5])] }
def Ye:H8:={ keep:=[(20,[1,2,4],[1,2,4],[],[1,2,4])] }
def yR:H8:={}
def iU:H8:={ keep:=[(4,[0,3],[],[],[0,3])] }
def Ze:H8:={ keep:=[(25,[1,3,4],[1,4],[],[1,3,4]),(28,[1,3,5],[1],[],[1,3,5])] }
def uT:H8:={ Q4:=[2] }
def bN:H8:={ keep:=[(9,[33,34,35],[],[],[33,34,35])] }
def TN:H8:={ keep:=[(2,[1,2,5],[2],[],[1,2,5])] }
def Uy:H8:={ keep:=[(4,[1,2,5],[2],[],[1,2,5])] }
def fB:H8:={}
def bO:H8:={ keep:=[(4,[0,3],[],[],[0,3])] }
def uU:H8:={}
def kS:H8:={}
def Ga:H8:={ shared:=[1,2,3],keep:=[(3,[2,3,8],[],[],[2,3,8]),(6,[3,4],[4],[],[3,4])] }
def KM:H8:={ shared:=[35],PK:=[61,99],keep:=[(5,[0,1,3,10,36,37,38],[],[],[0,1,3,10,36,37,38]),(17,[0,1,10,16,90,91,92],[],[],[0,1,10,16,90,91,92])] }
def Ff:j3:={ params:=[.val,.val,.val,.val],results:=[.val,.val] }
def KN:H8:={ keep:=[(8,[0,1,10],[],[],[0,1,10]),(9,[0,1,10,24,25,26],[],[],[0,1,10,24,25,26])] }
def Fg:j3:={ params:=[.val,.val,.val,.val],results:=[.val,.val] }
def YI:H8:={}
def PE:j3:={ params:=[.val,.val],results:=[.val,.val] }
def WM:H8:={ PK:=[12] }
def N_:j3:={ params:=[.val,.val],results:=[.val] }
def WL:H8:={ PK:=[12] }
def Nz:j3:={ params:=[.val,.val],results:=[.val],lock:=true }
def qZ:H8:={}
def Mg:H8:={ Q4:=[6,7,29,34],keep:=[(3,[0,2,7,15,16,17],[],[7],[0,2,15,16,17])] }
def HY:j3:={ params:=[.val,.val,.val],results:=[.val] }
def bJ:H8:={ shared:=[31],grow:=[(3,31,[2,3])],keep:=[(2,[10],[10],[],[10])] }
def TD:j3:={ params:=[.val,.val,.val,.val],results:=[.val,.val,.val,.val] }
def YH:H8:={}
def PD:j3:={ params:=[.val,.val],results:=[.val,.val] }
def Je:H8:={ Dn:=[33,146],keep:=[(4,[0,6,7,9],[],[],[0,6,7,9]),(27,[0,6,7,9,11,12],[],[],[0,6,7,9,11,12]),(29,[0,6,7,9,17,18,19],[],[],[0,6,7,9,17,18,19]),(32,[6,7],[],[],[6,7])] }
def Fe:j3:={ params:=[.val,.val,.val],results:=[.val,.val,.val] }
def ZF:H8:={ PK:=[12] }
def Qi:j3:={ params:=[.val,.val],results:=[.val] }
def Mk:H8:={ PK:=[33],keep:=[(7,[0,1,7,37,38,39],[],[],[0,1,7,37,38,39])] }
def Hd:j3:={ params:=[.val,.val],results:=[.val] }
def JG:H8:={ Q4:=[61],PK:=[33,50],keep:=[(8,[0,1,4,7],[4,7],[7],[0,1,4]),(9,[0,1,4,7,54,55,56],[4,7],[7],[0,1,4,54,55,56])] }
def Ew:j3:={ params:=[.val,.val],results:=[.val] }
def yP:H8:={}
def uR:H8:={}
def yN:H8:={}
def Zc:H8:={ keep:=[(2,[0,3],[],[],[0,3]),(8,[0,4,5],[],[],[0,4,5])] }
def bL:H8:={ Q4:=[1,4,9,26,28],keep:=[(4,[1,2,5],[2],[1],[2,5])] }
def TE:j3:={ params:=[.val,.own],results:=[.own] }
def uW:H8:={}
def yT:H8:={}
def qb:H8:={}
def qa:H8:={}
def Wu:H8:={ keep:=[(24,[1,3,4],[1,3],[],[1,3,4])] }
def Ov:H8:={ PK:=[12,21],keep:=[(3,[0,1],[],[],[0,1])] }
def JO:j3:={ params:=[.val,.val],results:=[.val] }
def VF:H8:={ Q4:=[4] }
def NG:j3:={ params:=[.val,.val],results:=[.val] }
def Gy:H8:={ PK:=[37],keep:=[(8,[0,1,6],[],[],[0,1,6]),(9,[0,1,6,41,42,43],[],[],[0,1,6,41,42,43])] }
def Dw:j3:={ params:=[.val,.val],results:=[.val] }
def Mj:H8:={ Q4:=[10,63,85],PK:=[53,80],keep:=[(12,[0,5,10,57,58,59],[],[10],[0,5,57,58,59])] }
def Ha:j3:={ params:=[.val,.val],results:=[.val] }
def YJ:H8:={ Dn:=[13],PK:=[10,26] }
def PH:j3:={ params:=[.val,.val],results:=[.val] }
def Yh:H8:={ keep:=[(12,[1],[1],[],[1])] }
def Ow:H8:={ Q4:=[4,5,29,34],PK:=[23],keep:=[(5,[0,5,14,15,16],[],[5],[0,14,15,16])] }
def JP:j3:={ params:=[.val,.val],results:=[.val] }
def VD:H8:={ PK:=[12] }
def NE:j3:={ params:=[.val,.val],results:=[.val] }
def Jq:H8:={ Q4:=[7,8,11,54,59,65,69,74,85],Oy:=[36,40,44,47],keep:=[(16,[0,2,4],[4],[],[0,2,4]),(20,[0,4,7],[4],[],[0,4,7]),(21,[0,7,90,91,92],[],[],[0,7,90,91,92])] }
def Fu:j3:={ params:=[.val,.val,.val],results:=[.val] }
def Yg:H8:={ keep:=[(5,[1,5,13,14,15],[],[],[1,5,13,14,15])] }
def QP:H8:={ Q4:=[5,22,32],keep:=[(5,[0,3,5,16,17,18],[3],[5],[0,3,16,17,18])] }
def KS:j3:={ params:=[.val,.val],results:=[.val] }
def VE:H8:={}
def NF:j3:={ params:=[.val,.val,.val],results:=[.val] }
def VB:H8:={ Dn:=[31],keep:=[(7,[0,1,2,8,35,36],[],[],[0,1,2,8,35,36])] }
def Ny:j3:={ params:=[.val,.val,.val],results:=[.val,.val] }
def uQ:H8:={}
def Wv:H8:={ keep:=[(4,[1,12,13,14],[],[],[1,12,13,14])] }
def Ox:H8:={ Q4:=[2,6,26,38,57,60],PK:=[16,30,45],keep:=[(7,[0,2,49,50,51],[],[2],[0,49,50,51])] }
def JQ:j3:={ params:=[.val,.val,.own],results:=[.own] }
def Rx:H8:={ Q4:=[10,33,58],keep:=[(2,[0,2,3,4,6,10,15,16],[6],[10],[0,2,3,4,6,15,16])] }
def Ld:j3:={ params:=[.val,.val,.val,.val,.val],results:=[.own,.val,.val] }
def YG:H8:={}
def O_:j3:={ params:=[.val,.val,.val,.val],results:=[.val] }
def uP:H8:={}
def Ni:H8:={ PK:=[19,24],keep:=[(1,[0,2,10,11,12],[],[],[0,2,10,11,12])] }
def Ia:j3:={ params:=[.val,.val,.val],results:=[] }
def Tu:H8:={}
def L_:j3:={ params:=[.val,.val],results:=[.val] }
def WN:H8:={ PK:=[26,46,56] }
def OA:j3:={ params:=[.val,.val,.val],results:=[.val] }
def Tv:H8:={}
def MB:j3:={ params:=[.val,.val,.val],results:=[.val] }
def NK:H8:={}
def Jr:H8:={ keep:=[(2,[0,1,7,8],[],[],[0,1,7,8])] }
def flL:List H8:=[{},{},{},{},{},{},{},Nh,{},bH,{},bD,{},bF,{},{},bI,Uz,{},{},bK,{},{},{},{},ng,{},yM,{},yQ,VA,A1l,Wt,{},{},bG,iW,{},{},OT,bM,JD,Mh,JF,YF,yS,Tk,Cr,Ng,FP,VC,{},{},{},{},{},{},{},{},{},{},{},{},{},A3z,Zd,U_,{},{},yO,{},{},{},XU,uV,Yf,Mi,{},EM,JE,WJ,Ux,Tq,Uw,Tt,qY,WI,Ot,Ou,Uv,IR,WK,Tn,LJ,WO,Tp,XV,{},{},{},{},{},{},{},{},{},{},{},{},{},{},{},{},{},{},uS,iV,{},Ye,yR,iU,Ze,uT,{},{},bN,TN,Uy,{},{},fB,bO,uU,kS,Ga,KM,KN,YI,WM,WL,qZ,Mg,bJ,YH,Je,ZF,Mk,JG,{},{},{},{},{},{},{},yP,{},{},{},{},{},uR,yN,Zc,bL,uW,yT,qb,qa,{},Wu,Ov,VF,Gy,Mj,YJ,{},Yh,Ow,VD,Jq,Yg,QP,VE,VB,{},{},{},{},{},{},{},{},{},{},{},{},uQ,Wv,{},{},Ox,Rx,YG,uP,Ni,Tu,WN,Tv,{},{},{},{},{},NK,Jr,{},{},{},{},{},{},{},{},{},{},{},{},{},{},{},{},{}]
def C0E:List (Option j3):=List.replicate 40 (none:Option j3)++[some TF,some Et,some HZ,some Ev,some Oz,none,some Ls,some BO,some IZ,some DJ,some ND]++List.replicate 22 (none:Option j3)++[some Qh,none,some RN,none,none,none,some Eu,some Nv,some NC,some Lv,some NB,some Lx,some XJ,some Nu,some JM,some JN,some NA,some ET,some Nw,some Lt,some GX,some OB,some Lu,some Qj]++List.replicate 38 (none:Option j3)++[some Ff,some Fg,some PE,some N_,some Nz,none,some HY,some TD,some PD,some Fe,some Qi,some Hd,some Ew]++List.replicate 16 (none:Option j3)++[some TE,none,none,none,none,none,none,some JO,some NG,some Dw,some Ha,some PH,none,none,some JP,some NE,some Fu,none,some KS,some NF,some Ny]++List.replicate 16 (none:Option j3)++[some JQ,some Ld,some O_,none,some Ia,some L_,some OA,some MB]++List.replicate 23 (none:Option j3)++[none]
def clL:List FuncId:=[176]
def csL:List (FuncId×Nat):=[(176,1),(77,16),(169,7)]
def mkL:List (FuncId×FuncId):=[(77,128),(169,199)]
def itF(f:FuncId):Option (List DV->Option (List DV)):=if f=128 then some (TB 16 15)else if f=199 then some (TB 7 6)else none
def dcL:List (FuncId×B7v):=[]
def dfL:List FuncId:=[]
def C0B:List TypeId:=[]
def B9K:List (FuncId×Cut):=[]
def cfg:BQ where
 P:=Tryz.prog
 fl f:=flL.getD f {}
 sig f:=C0E.getD f none
 vO f:=B9K.lookup f
 clone f:=clL.contains f
 jO f:=(csL.lookup f).getD 0
 fO f:=mkL.lookup f
 iter f:=itF f
 ref t:=C0B.contains t
 B4e f:=dcL.lookup f
 dfn f:=dfL.contains f
def zb0:List (DV×F4):=[((.int .i64 0),.val),((.int .i64 0),.val),((.int .i64 0),.val),((.int .i64 0),.val),((.int .i64 0),.val),((.str ⟨#[]⟩),.val)]
def zb1:List (DV×F4):=[((.int .i64 0),.val),((.int .i64 0),.val),((.list 3 []),.val)]
abbrev C9:=run cfg
def hP(fn:Func)(fl:H8)(R:O8)(l:List Bool)(s:St):=A5c cfg R fl (XE cfg.P fn) l (fn.body.getD .skip) s
def eP(fn:Func)(fl:H8)(R:O8)(l:List Bool)(s:St):=Ut cfg R fl (XE cfg.P fn) l (fn.body.getD .skip) s
def B0k{f:FuncId}{fn:Func}{ds:List DV}{X:Option DV}{d:DV}(hf:cfg.P.funcs[f]?=some fn)(hp:cfg.vO f=none)(hb:fn.body=some (fn.body.getD .skip))(hX:Ut cfg (run cfg) (cfg.fl f) (XE cfg.P fn) [] (fn.body.getD .skip) (I4 fn (ds.map λd=>(d,.val)) [])=X)(h:X=some d):(run cfg).p f ds=some d:=(A58 hp hf hb).trans (hX.trans h)
def pbA:Nat->Nat->List Bool->List Bool
  |0,_,a=>a
  |k+1,n,a=>match Nat.ble n 1 with
    |true=>a
    |false=>pbA k (n / 2) (Nat.beq (n % 2) 1::a)
def pb(n:Nat):List Bool:=pbA 300 n []
def mrg:Nat->List (Nat×F4)->List Nat->List (Nat×F4)
  |0,_,_=>[]
  |_+1,l,[]=>l
  |k+1,[],j::b=>(j,.loc j 0)::mrg k [] b
  |k+1,(i,m)::l,j::b=>match Nat.ble i j with
    |true=>(i,m)::mrg k l (j::b)
    |false=>(j,.loc j 0)::mrg k ((i,m)::l) b
def ms(n:Nat)(a:List (Nat×DV))(b:List (Nat×F4))(c:List (Nat×Option (List (DV×F4))))(g:List E5):St:=mst n a (mrg 300 b (c.map Prod.fst)) c g
def bx(d:DV)(n:Nat):=some (bxs d 0 n)
def bv(l:List DV):Option (List (DV×F4)):=some (l.map λd=>(d,.val))
def hR(fn:Func)(g:j3)(fl:H8)(R:O8)(l:List Bool)(s:St):=A5c cfg R fl (dB cfg.P fn g) l (fn.body.getD .skip) s
def eR(fn:Func)(g:j3)(fl:H8)(R:O8)(l:List Bool)(s:St):=Ut cfg R fl (dB cfg.P fn g) l (fn.body.getD .skip) s
def BL{f:FuncId}{fn:Func}{s:j3}{rs:List (DV×F4)}{sg:List E5}{q:Option (List DV×List E5)}(hf:cfg.P.funcs[f]?=some fn)(hs:cfg.sig f=some s:=by kernel_rfl)(hb:fn.body=some (fn.body.getD .skip):=by kernel_rfl)(hp:cfg.B4e f=none:=by kernel_rfl)(h:Ut cfg (run cfg) (cfg.fl f) (dB cfg.P fn s) [] (fn.body.getD .skip) (I4 fn rs sg)=q:=by kernel_rfl):(run cfg).r f rs sg=q:=(B6o hs hf hb hp).trans h
def CP{f:FuncId}{fn:Func}{ds:List DV}{q:Option DV}(hf:cfg.P.funcs[f]?=some fn)(hp:cfg.vO f=none:=by kernel_rfl)(hb:fn.body=some (fn.body.getD .skip):=by kernel_rfl)(h:Ut cfg (run cfg) (cfg.fl f) (XE cfg.P fn) [] (fn.body.getD .skip) (I4 fn (ds.map λd=>(d,.val)) [])=q:=by kernel_rfl):(run cfg).p f ds=q:=(A58 hp hf hb).trans h
end
section
open Go.Proofs Go.RowKit Go.Shelf
attribute [local go_sem] Oper.semAt_some
variable {F:Fence}
theorem B3h(hd:F.depth=none)(k:Nat):F.room k:=λd h=>by rw[hd]at h;cases h
theorem RoundIn.B7z(hd:F.depth=none){m m':Nat}{P:Program}{l:Nat}{f:FuncId}{tmps:Array Value}{assign body:Code}{w:World}{R:Ending->World->Prop}(h:RoundIn F m P l f tmps assign body w R):RoundIn F m' P l f tmps assign body w R:=⟨h.1,λc cs _=>h.2 c cs (B3h hd _)⟩
set_option maxHeartbeats 1000000 in
theorem B6E:A98 Tryz.prog 169 199 7:=by
 intro w vs hs;obtain⟨l⟩:=vs
 match l,hs with
 |[v0,v1,v2,v3,v4,v5,v6],_=>
 refine(callsIn_wide (n:=1)).1 (callsIn_of_wp Tryz.func169 rfl trivial ?_);simp only[Tryz.ntmps169,zbq,zeq,zdq,Nat.reduceAdd,Nat.reduceSub,z8q,z9q,zcq,zaq,zjq,zfq]
 gi_wp2
 go_ret
 exact⟨rfl,_,rfl⟩
set_option maxRecDepth 10000 in
set_option maxHeartbeats 4000000 in
theorem B6u(l n0:Nat)(ds:List DV)(J:Nat->Env->World->Prop)(Jx:World->Prop)(n:Nat)(hf:∀k E' W',J k E' W'->∀b o,W'.heap.size<=b->E'.O b o=.other)(hI:∀k E' W1 W2,J k E' W1->Pt n0 E' W1 W2->J k E' W2)(hY:∀k E' W1 d v,J k E' W1->ds[k]?=some d->RV E'.S W1.heap d v->YieldAt Fence.wide n Tryz.prog l #[v] W1 λe W2=>
   (e=.returned (.bool true)/\∃E2,J (k+1) E2 W2/\Pr P8 E' W1.heap E2 W2.heap)\/(e=.returned (.bool false)/\Jx W2)):
 ∀(m:Nat)(d:DV)(sub:List DV),BJ 7 6 m d=some sub->∀(k:Nat)(E:Env)(W:World)(v:Value),J k E W->RV E.S W.heap d v->(∀j x,sub[j]?=some x->ds[k+j]?=some x)->n0<=W.heap.size->CallsIn Fence.wide n Tryz.prog 200 #[v,.func (.yield l) #[] #[]] W λe W'=>(e=.returned (.bool true)/\∃E',J (k+sub.length) E' W'/\PM E W E' W')\/(e=.returned (.bool false)/\Jx W'):=by
 intro m;induction m with
 |zero=>intro d sub h;simp[BJ]at h
 |succ m ih=>
   intro d sub EQ k E W v hJ hv Io hn0;cases d with
   |agg cs=>
     rw[BJ]at EQ;obtain⟨h1,EQ⟩:=H6 EQ;cases hk:cs.getD 6 .undef with
     |list s kds=>
       rw[hk]at EQ;simp only at EQ;obtain⟨h2,EQ⟩:=H6 EQ;obtain⟨ks,h3,EQ⟩:=D6 EQ;simp only[D8]at EQ;subst EQ;simp only[beq_iff_eq,zkq,I6]at h1 h2;obtain⟨h2,Yj⟩:=h2;subst h2;have QW:=hv;simp only[RV]at QW;obtain⟨vs,rfl,QX⟩:=QW;obtain⟨hl,QX⟩:=CS.1 QX;obtain⟨l',rfl⟩:∃l':List Value,vs=l'.toArray:=⟨vs.toList,by simp⟩;simp only at hl QX
       match l',hl.symm.trans h1 with
       |[v0,v1,v2,v3,v4,v5,v6],_=>
       have hk5:cs[6]?=some (.list 7 kds):=by
        have:6<cs.length:=by omega
        rw[zoq,z2q this]at hk;rw[z2q this];exact congrArg some hk
       have hkc:=(QX 6 _ v6 hk5 rfl).2;simp only[RC]at hkc;obtain⟨ka,len,cap,h4,h5,h6,h7,h8,h9⟩:=hkc;simp only[List.cons.injEq,and_true]at h4;subst h4 h5;have Rk:∀k:Nat,(Fence.wide.depth.isSome=true->1<=k):=λk h=>by cases h
       have ho:∀o,E.O W.heap.size o=.other:=λo=>hf k E W hJ _ o (zmq _);have key:∀T,∃fy ty ay by_,(Instr.yield l #[.agg #[v0,v1,v2,v3,v4,v5,.slice ka kds.length cap]]).run Tryz.prog (W.alloc (.cells #[v0,v1,v2,v3,v4,v5,.slice ka kds.length cap] T))=.ok (.round l fy ty ay by_) (W.alloc (.cells #[v0,v1,v2,v3,v4,v5,.slice ka kds.length cap] T)) /\
        RoundIn Fence.wide (n-1) Tryz.prog l fy ty ay by_ (W.alloc (.cells #[v0,v1,v2,v3,v4,v5,.slice ka kds.length cap] T)) λe W2=>(e=.returned (.bool true)/\∃E2,J (k+1) E2 W2/\PM E W E2 W2/\(W2.heap[W.heap.size]?=some (.cells #[v0,v1,v2,v3,v4,v5,.slice ka kds.length cap] T (0,0))/\(∀o,E2.O W.heap.size o=.other))/\W2.cell? ⟨W.heap.size,6,none⟩=some (.slice ka kds.length cap))\/(e=.returned (.bool false)/\Jx W2):=by
        intro T;have hJ1:J k E (W.alloc (.cells #[v0,v1,v2,v3,v4,v5,.slice ka kds.length cap] T)):=hI _ _ _ _ hJ (Pt.alloc _);have K1:=PM.alloc (E:=E) (W:=W) (.cells #[v0,v1,v2,v3,v4,v5,.slice ka kds.length cap] T) (hf k E W hJ);obtain⟨fy,ty,ay,by_,hy,hR⟩:=hY k E _ (.agg cs) _ hJ1 (Io 0 _ rfl) (RV.mono K1.sh _ hv);refine⟨fy,ty,ay,by_,hy,RoundIn.B7z rfl (RoundIn.mono hR ?_)⟩;rintro e W2 (⟨rfl,E2,hJ2,hP2⟩ | ⟨rfl,hx⟩)
        ·have K2:=PM.B5R hP2 (hf _ _ _ hJ1);have hb:=K2.blk W.heap.size (by simp) ho;rw[World.alloc_heap_new]at hb;refine .inl ⟨rfl,E2,hJ2,K1.trans K2,hb,?_⟩;simp[World.cell?,hb.1]
        ·exact .inr ⟨rfl,hx⟩
       obtain⟨fy,ty,ay,by_,hy,hR⟩:=key 71;refine callsIn_of_wp Tryz.func200 rfl trivial ?_;simp only[Tryz.ntmps200,zbq,zeq,zdq,Nat.reduceAdd,Nat.reduceSub,z8q,z9q,zcq,zaq,zjq,zfq]
       gi_wp2_with ((try refine⟨Rk _,?_⟩);refine hR.mono ?_;clear hR;rintro e W2 (⟨rfl,E2,hJ2,hK2,qd,hc2⟩ | ⟨rfl,hx2⟩))
       ·-- the D5, one by one
        refine wpIn_loop_rounds (kds.length+1) ?_;refine(?loop:∀(r i:Nat)(pre rs:List DV)(E3:Env)(w:World)(x6 x15 x16 x17 x18 x19 x20 x21 x22:Value),i+r=kds.length->Nj (BJ 7 6 m) (kds.drop i)=some rs->ks=pre++rs->J (k+1+pre.length) E3 w->PM E W E3 w->
         Code.roundsIn Fence.wide n Tryz.prog _ _ (r+1) { tmps := #[.agg #[v0,v1,v2,v3,v4,v5,.slice ka kds.length cap],.func (.yield l) #[] #[],.pointer (some { block:=W.heap.size,off:=0 }),undef,.bool false,undef,x6,.func (.yield l) #[] #[],.agg #[v0,v1,v2,v3,v4,v5,.slice ka kds.length cap],.bool true,.bool false,.pointer (some { block:=W.heap.size,off:=6 }),.slice ka kds.length cap,.int .i64 (kds.length:Int),.int .i64 (i:Int),x15,x16,x17,x18,x19,x20,x21,x22],defers:=[] } w)
         kds.length 0 [] ks E2 W2 undef undef undef undef undef undef undef undef undef (by simp) h3 rfl hJ2 hK2
        clear hJ2 hK2 qd hc2 hy key hJ;intro r;induction r with
        |zero=>
          intro i pre rs E3 w x6 x15 x16 x17 x18 x19 x20 x21 x22 hi hrs EP hJ3 kT;have hi':i=kds.length:=by omega
          have B4v:(i:Int)=(kds.length:Int):=by omega
          rw[roundsIn_succ];rw[B4v];have P6:¬((kds.length:Int)<(kds.length:Int)):=by omega
          gi_wp2
          go_ret
          rw[hi',zGq,Nj]at hrs;simp only[D8]at hrs;subst hrs;refine .inl ⟨rfl,E3,?_,kT⟩;rw[show k+(pre.length+([]:List DV).length+1)=k+1+pre.length by simp;omega];exact hJ3
        |succ r ihr=>
          intro i pre rs E3 w x6 x15 x16 x17 x18 x19 x20 x21 x22 hi hrs EP hJ3 kT;rw[roundsIn_succ];have P6:((i:Int)<(kds.length:Int)):=by omega
          have hil:i<kds.length:=by omega
          obtain⟨xa,rfl⟩:∃xa,ka=some xa:=by
           cases ka with
           |none=>have:=h7 rfl;omega
           |some xa=>exact⟨xa,rfl⟩
          obtain⟨ZG,h11⟩:=h9 xa rfl;obtain⟨xb,xo,xs⟩:=xa;have ZG:=ZG (by omega);simp only at ZG h11;subst ZG;obtain⟨us,hu1,hu2,hu3⟩:=EW.1 h11 i _ (z2q hil);have hu4:=hu2.mono kT.sh
          match us,hu1 with
          |[u0,u1,u2,u3,u4,u5,u6],_=>
          have cc:∀(j:Nat)(u:Value),[u0,u1,u2,u3,u4,u5,u6][j]?=some u->w.cell? ⟨xb,xo+i * 7+j,none⟩=some u:=λj u hj=>by rw[Me];exact(hu4 j u hj).1
          have c0:w.cell? ⟨xb,xo+i * 7,none⟩=some u0:=cc 0 u0 rfl;have c1:=cc 1 u1 rfl;have c2:=cc 2 u2 rfl;have c3:=cc 3 u3 rfl;have c4:=cc 4 u4 rfl;have c5:=cc 5 u5 rfl;have c6:=cc 6 u6 rfl;have ou:∀(j:Nat)(u:Value),[u0,u1,u2,u3,u4,u5,u6][j]?=some u->u.oneCell'=true:=λj u hj=>(Oa hu3 hj).elim λh1 h2=>Jm h1 h2;have e0:u0.oneCell'=true:=ou 0 u0 rfl;have e1:u1.oneCell'=true:=ou 1 u1 rfl;have e2:u2.oneCell'=true:=ou 2 u2 rfl;have e3:u3.oneCell'=true:=ou 3 u3 rfl;have e4:u4.oneCell'=true:=ou 4 u4 rfl;have e5:u5.oneCell'=true:=ou 5 u5 rfl;have e6:u6.oneCell'=true:=ou 6 u6 rfl;obtain⟨w1,s0,b0,r0,z0,o0⟩:=AU (P:=Tryz.prog) (j:=0) (World.alloc_heap_new w (.cells #[.int .i64 0,.int .i64 0,.int .i64 0,.string ⟨#[]⟩,.int .i64 0,.string ⟨#[]⟩,.slice none 0 0] 71)) (by simp) e0;obtain⟨w2,s1,b1,r1,z1,o1⟩:=AU (P:=Tryz.prog) (j:=1) b0 (by simp) e1;obtain⟨w3,s2,b2,r2,z2,o2⟩:=AU (P:=Tryz.prog) (j:=2) b1 (by simp) e2;obtain⟨w4,s3,b3,r3,z3,o3⟩:=AU (P:=Tryz.prog) (j:=3) b2 (by simp) e3;obtain⟨w5,s4,b4,r4,z4,o4⟩:=AU (P:=Tryz.prog) (j:=4) b3 (by simp) e4;obtain⟨w6,s5,b5,r5,z5,o5⟩:=AU (P:=Tryz.prog) (j:=5) b4 (by simp) e5;obtain⟨w7,s6,b6,r6,z6,o6⟩:=AU (P:=Tryz.prog) (j:=6) b5 (by simp) e6;simp only[zpq,zAq,zBq]at b0 b1 b2 b3 b4 b5 b6;have dd:∀(j:Nat)(u:Value),[u0,u1,u2,u3,u4,u5,u6][j]?=some u->w7.cell? ⟨w.heap.size,j,none⟩=some u:=λj u hj=>by rw[Me];simp only[hc,b6];simpa using hj
          have d0:=dd 0 u0 rfl;have d1:=dd 1 u1 rfl;have d2:=dd 2 u2 rfl;have d3:=dd 3 u3 rfl;have d4:=dd 4 u4 rfl;have d5:=dd 5 u5 rfl;have d6:=dd 6 u6 rfl;have low:∀b,b<w.heap.size->w7.heap[b]?=w.heap[b]?:=λb hb=>by rw[r6 b (by omega),r5 b (by omega),r4 b (by omega),r3 b (by omega),r2 b (by omega),r1 b (by omega),r0 b (by omega)];exact Below.heap_alloc _ _ _ hb
          have hz:w.heap.size<=w7.heap.size:=by rw[z6,z5,z4,z3,z2,z1,z0];simp
          have Wz:Y9 w w7:=Y9.trans (b:=w1) (Y9.trans (b:=w.alloc (.cells #[.int .i64 0,.int .i64 0,.int .i64 0,.string ⟨#[]⟩,.int .i64 0,.string ⟨#[]⟩,.slice none 0 0] 71)) ⟨rfl,rfl,rfl⟩ o0) ((((((o1).trans o2).trans o3).trans o4).trans o5).trans o6);have hfr:=hf _ _ _ hJ3;have K7:PM E3 w E3 w7:=PM.same hz low hfr;have hJ7:=hI _ _ _ _ hJ3 (Pt.same hz low Wz);rw[zrq hil,Nj]at hrs;obtain⟨sa,hsa,hrs⟩:=D6 hrs;obtain⟨sb,hsb,hrs⟩:=D6 hrs;simp only[D8]at hrs;subst hrs;have B4s:Fence.wide.fn 200:=trivial;have A1r:CallsIn Fence.wide (n-1) Tryz.prog 200 _ w7 _:=callsIn_wide.2 (callsIn_wide.1 (ih _ sa hsa (k+1+pre.length) E3 w7 (.agg #[u0,u1,u2,u3,u4,u5,u6]) hJ7 (RV.mono (kT.trans K7).sh _ (flat_agg hsa hu3)) (A9n Io EP) (by have:=kT.size;omega)));clear ih
          gi_wp2_with ((try refine⟨Rk _,?_⟩);gi_at_call 200;refine A1r.mono ?_;clear A1r;rintro e wz (⟨rfl,E4,hJ4,hK4⟩ | ⟨rfl,hx⟩))
          ·rw[show wrap64 ((i:Int)+1)=((i+1:Nat):Int)by unfold R6 at Yj;rw[wrap64];omega];exact ihr (i+1) (pre++sa) sb E4 wz _ _ _ _ _ _ _ _ _ (by omega) hsb (by rw[EP,z7q]) (by rw[zCq,<- Nat.add_assoc];exact hJ4) ((kT.trans K7).trans hK4)
          ·go_ret
           exact .inr ⟨rfl,hx⟩
       ·go_ret
        exact .inr ⟨rfl,hx2⟩
     |_=>rw[hk]at EQ;simp at EQ
   |_=>simp[BJ]at EQ
set_option maxHeartbeats 1000000 in
theorem B6x:A0A Tryz.prog 199 (TB 7 6):=by
 intro cs ds ZH n l b c T0 J Jx E W hb ho hR hf hI hY h0;obtain⟨m,hm⟩:=A1m ZH;have FD:cs.length=7:=by
  cases m with
  |zero=>simp[BJ]at hm
  |succ m=>rw[BJ]at hm;obtain⟨h1,-⟩:=H6 hm;simpa using h1
 have hlc:=(CS.1 hR).1;obtain⟨l',rfl⟩:∃l':List Value,c=l'.toArray:=⟨c.toList,by simp⟩;simp only at hR hlc
 match l',hlc.symm.trans FD with
 |[v0,v1,v2,v3,v4,v5,v6],_=>
 have cc:∀(j:Nat)(u:Value),[v0,v1,v2,v3,v4,v5,v6][j]?=some u->W.cell? ⟨b,j,none⟩=some u:=λj u hj=>by rw[Me];simp only[hc,hb];simpa using hj
 have c0:=cc 0 v0 rfl;have c1:=cc 1 v1 rfl;have c2:=cc 2 v2 rfl;have c3:=cc 3 v3 rfl;have c4:=cc 4 v4 rfl;have c5:=cc 5 v5 rfl;have c6:=cc 6 v6 rfl;have hgo:CallsIn Fence.wide (n-1) Tryz.prog 200 _ W _:=callsIn_wide.2 (callsIn_wide.1 (B6u l W.heap.size ds J Jx n hf hI hY m (.agg cs) ds hm 0 E W (.agg #[v0,v1,v2,v3,v4,v5,v6]) h0 (by simp only[RV];exact⟨_,rfl,hR⟩) (λj x h=>by rw[Nat.zero_add];exact h) (zmq _)));have B4s:Fence.wide.fn 200:=trivial;have Rk:∀k:Nat,(Fence.wide.depth.isSome=true->1<=k):=λk h=>by cases h
 refine callsIn_of_wp Tryz.func199 rfl trivial ?_;simp only[Tryz.ntmps199,zbq,zeq,zdq,Nat.reduceAdd,Nat.reduceSub,z8q,z9q,zcq,zaq,zjq,zfq]
 gi_wp2_with ((try refine⟨Rk _,?_⟩);gi_at_call 200;refine hgo.mono ?_;clear hgo;rintro e w2 (⟨rfl,E4,hJ4,-⟩ | ⟨rfl,hx⟩))
 ·go_end0
  exact⟨⟨_,rfl⟩,.inl ⟨E4,by simpa using hJ4⟩⟩
 ·go_end0
  exact⟨⟨_,rfl⟩,.inr hx⟩
set_option maxHeartbeats 1000000 in
theorem B8v:A98 Tryz.prog 77 128 16:=by
 intro w vs hs;obtain⟨l⟩:=vs
 match l,hs with
 |[v0,v1,v2,v3,v4,v5,v6,v7,v8,v9,v10,v11,v12,v13,v14,v15],_=>
 refine(callsIn_wide (n:=1)).1 (callsIn_of_wp Tryz.func77 rfl trivial ?_);simp only[Tryz.ntmps77,zbq,zeq,zdq,Nat.reduceAdd,Nat.reduceSub,z8q,z9q,zcq,zaq,zjq,zfq]
 gi_wp2
 go_ret
 exact⟨rfl,_,rfl⟩
set_option maxRecDepth 10000 in
set_option maxHeartbeats 4000000 in
theorem B71(l n0:Nat)(ds:List DV)(J:Nat->Env->World->Prop)(Jx:World->Prop)(n:Nat)(hf:∀k E' W',J k E' W'->∀b o,W'.heap.size<=b->E'.O b o=.other)(hI:∀k E' W1 W2,J k E' W1->Pt n0 E' W1 W2->J k E' W2)(hY:∀k E' W1 d v,J k E' W1->ds[k]?=some d->RV E'.S W1.heap d v->YieldAt Fence.wide n Tryz.prog l #[v] W1 λe W2=>
   (e=.returned (.bool true)/\∃E2,J (k+1) E2 W2/\Pr P8 E' W1.heap E2 W2.heap)\/(e=.returned (.bool false)/\Jx W2)):
 ∀(m:Nat)(d:DV)(sub:List DV),BJ 16 15 m d=some sub->∀(k:Nat)(E:Env)(W:World)(v:Value),J k E W->RV E.S W.heap d v->(∀j x,sub[j]?=some x->ds[k+j]?=some x)->n0<=W.heap.size->CallsIn Fence.wide n Tryz.prog 129 #[v,.func (.yield l) #[] #[]] W λe W'=>(e=.returned (.bool true)/\∃E',J (k+sub.length) E' W'/\PM E W E' W')\/(e=.returned (.bool false)/\Jx W'):=by
 intro m;induction m with
 |zero=>intro d sub h;simp[BJ]at h
 |succ m ih=>
   intro d sub EQ k E W v hJ hv Io hn0;cases d with
   |agg cs=>
     rw[BJ]at EQ;obtain⟨h1,EQ⟩:=H6 EQ;cases hk:cs.getD 15 .undef with
     |list s kds=>
       rw[hk]at EQ;simp only at EQ;obtain⟨h2,EQ⟩:=H6 EQ;obtain⟨ks,h3,EQ⟩:=D6 EQ;simp only[D8]at EQ;subst EQ;simp only[beq_iff_eq,zkq,I6]at h1 h2;obtain⟨h2,Yj⟩:=h2;subst h2;have QW:=hv;simp only[RV]at QW;obtain⟨vs,rfl,QX⟩:=QW;obtain⟨hl,QX⟩:=CS.1 QX;obtain⟨l',rfl⟩:∃l':List Value,vs=l'.toArray:=⟨vs.toList,by simp⟩;simp only at hl QX
       match l',hl.symm.trans h1 with
       |[v0,v1,v2,v3,v4,v5,v6,v7,v8,v9,v10,v11,v12,v13,v14,v15],_=>
       have hk5:cs[15]?=some (.list 16 kds):=by
        have:15<cs.length:=by omega
        rw[zoq,z2q this]at hk;rw[z2q this];exact congrArg some hk
       have hkc:=(QX 15 _ v15 hk5 rfl).2;simp only[RC]at hkc;obtain⟨ka,len,cap,h4,h5,h6,h7,h8,h9⟩:=hkc;simp only[List.cons.injEq,and_true]at h4;subst h4 h5;have Rk:∀k:Nat,(Fence.wide.depth.isSome=true->1<=k):=λk h=>by cases h
       have ho:∀o,E.O W.heap.size o=.other:=λo=>hf k E W hJ _ o (zmq _);have key:∀T,∃fy ty ay by_,(Instr.yield l #[.agg #[v0,v1,v2,v3,v4,v5,v6,v7,v8,v9,v10,v11,v12,v13,v14,.slice ka kds.length cap]]).run Tryz.prog (W.alloc (.cells #[v0,v1,v2,v3,v4,v5,v6,v7,v8,v9,v10,v11,v12,v13,v14,.slice ka kds.length cap] T))=.ok (.round l fy ty ay by_) (W.alloc (.cells #[v0,v1,v2,v3,v4,v5,v6,v7,v8,v9,v10,v11,v12,v13,v14,.slice ka kds.length cap] T)) /\
        RoundIn Fence.wide (n-1) Tryz.prog l fy ty ay by_ (W.alloc (.cells #[v0,v1,v2,v3,v4,v5,v6,v7,v8,v9,v10,v11,v12,v13,v14,.slice ka kds.length cap] T)) λe W2=>(e=.returned (.bool true)/\∃E2,J (k+1) E2 W2/\PM E W E2 W2/\(W2.heap[W.heap.size]?=some (.cells #[v0,v1,v2,v3,v4,v5,v6,v7,v8,v9,v10,v11,v12,v13,v14,.slice ka kds.length cap] T (0,0))/\(∀o,E2.O W.heap.size o=.other))/\W2.cell? ⟨W.heap.size,15,none⟩=some (.slice ka kds.length cap))\/(e=.returned (.bool false)/\Jx W2):=by
        intro T;have hJ1:J k E (W.alloc (.cells #[v0,v1,v2,v3,v4,v5,v6,v7,v8,v9,v10,v11,v12,v13,v14,.slice ka kds.length cap] T)):=hI _ _ _ _ hJ (Pt.alloc _);have K1:=PM.alloc (E:=E) (W:=W) (.cells #[v0,v1,v2,v3,v4,v5,v6,v7,v8,v9,v10,v11,v12,v13,v14,.slice ka kds.length cap] T) (hf k E W hJ);obtain⟨fy,ty,ay,by_,hy,hR⟩:=hY k E _ (.agg cs) _ hJ1 (Io 0 _ rfl) (RV.mono K1.sh _ hv);refine⟨fy,ty,ay,by_,hy,RoundIn.B7z rfl (RoundIn.mono hR ?_)⟩;rintro e W2 (⟨rfl,E2,hJ2,hP2⟩ | ⟨rfl,hx⟩)
        ·have K2:=PM.B5R hP2 (hf _ _ _ hJ1);have hb:=K2.blk W.heap.size (by simp) ho;rw[World.alloc_heap_new]at hb;refine .inl ⟨rfl,E2,hJ2,K1.trans K2,hb,?_⟩;simp[World.cell?,hb.1]
        ·exact .inr ⟨rfl,hx⟩
       obtain⟨fy,ty,ay,by_,hy,hR⟩:=key 30;refine callsIn_of_wp Tryz.func129 rfl trivial ?_;simp only[Tryz.ntmps129,zbq,zeq,zdq,Nat.reduceAdd,Nat.reduceSub,z8q,z9q,zcq,zaq,zjq,zfq]
       gi_wp2_with ((try refine⟨Rk _,?_⟩);refine hR.mono ?_;clear hR;rintro e W2 (⟨rfl,E2,hJ2,hK2,qd,hc2⟩ | ⟨rfl,hx2⟩))
       ·-- the D5, one by one
        refine wpIn_loop_rounds (kds.length+1) ?_;refine(?loop:∀(r i:Nat)(pre rs:List DV)(E3:Env)(w:World)(x6 x15 x16 x17 x18 x19 x20 x21 x22:Value),i+r=kds.length->Nj (BJ 16 15 m) (kds.drop i)=some rs->ks=pre++rs->J (k+1+pre.length) E3 w->PM E W E3 w->
         Code.roundsIn Fence.wide n Tryz.prog _ _ (r+1) { tmps := #[.agg #[v0,v1,v2,v3,v4,v5,v6,v7,v8,v9,v10,v11,v12,v13,v14,.slice ka kds.length cap],.func (.yield l) #[] #[],.pointer (some { block:=W.heap.size,off:=0 }),undef,.bool false,undef,x6,.func (.yield l) #[] #[],.agg #[v0,v1,v2,v3,v4,v5,v6,v7,v8,v9,v10,v11,v12,v13,v14,.slice ka kds.length cap],.bool true,.bool false,.pointer (some { block:=W.heap.size,off:=15 }),.slice ka kds.length cap,.int .i64 (kds.length:Int),.int .i64 (i:Int),x15,x16,x17,x18,x19,x20,x21,x22],defers:=[] } w)
         kds.length 0 [] ks E2 W2 undef undef undef undef undef undef undef undef undef (by simp) h3 rfl hJ2 hK2
        clear hJ2 hK2 qd hc2 hy key hJ;intro r;induction r with
        |zero=>
          intro i pre rs E3 w x6 x15 x16 x17 x18 x19 x20 x21 x22 hi hrs EP hJ3 kT;have hi':i=kds.length:=by omega
          have B4v:(i:Int)=(kds.length:Int):=by omega
          rw[roundsIn_succ];rw[B4v];have P6:¬((kds.length:Int)<(kds.length:Int)):=by omega
          gi_wp2
          go_ret
          rw[hi',zGq,Nj]at hrs;simp only[D8]at hrs;subst hrs;refine .inl ⟨rfl,E3,?_,kT⟩;rw[show k+(pre.length+([]:List DV).length+1)=k+1+pre.length by simp;omega];exact hJ3
        |succ r ihr=>
          intro i pre rs E3 w x6 x15 x16 x17 x18 x19 x20 x21 x22 hi hrs EP hJ3 kT;rw[roundsIn_succ];have P6:((i:Int)<(kds.length:Int)):=by omega
          have hil:i<kds.length:=by omega
          obtain⟨xa,rfl⟩:∃xa,ka=some xa:=by
           cases ka with
           |none=>have:=h7 rfl;omega
           |some xa=>exact⟨xa,rfl⟩
          obtain⟨ZG,h11⟩:=h9 xa rfl;obtain⟨xb,xo,xs⟩:=xa;have ZG:=ZG (by omega);simp only at ZG h11;subst ZG;obtain⟨us,hu1,hu2,hu3⟩:=EW.1 h11 i _ (z2q hil);have hu4:=hu2.mono kT.sh
          match us,hu1 with
          |[u0,u1,u2,u3,u4,u5,u6,u7,u8,u9,u10,u11,u12,u13,u14,u15],_=>
          have cc:∀(j:Nat)(u:Value),[u0,u1,u2,u3,u4,u5,u6,u7,u8,u9,u10,u11,u12,u13,u14,u15][j]?=some u->w.cell? ⟨xb,xo+i * 16+j,none⟩=some u:=λj u hj=>by rw[Me];exact(hu4 j u hj).1
          have c0:w.cell? ⟨xb,xo+i * 16,none⟩=some u0:=cc 0 u0 rfl;have c1:=cc 1 u1 rfl;have c2:=cc 2 u2 rfl;have c3:=cc 3 u3 rfl;have c4:=cc 4 u4 rfl;have c5:=cc 5 u5 rfl;have c6:=cc 6 u6 rfl;have c7:=cc 7 u7 rfl;have c8:=cc 8 u8 rfl;have c9:=cc 9 u9 rfl;have c10:=cc 10 u10 rfl;have c11:=cc 11 u11 rfl;have c12:=cc 12 u12 rfl;have c13:=cc 13 u13 rfl;have c14:=cc 14 u14 rfl;have c15:=cc 15 u15 rfl;have ou:∀(j:Nat)(u:Value),[u0,u1,u2,u3,u4,u5,u6,u7,u8,u9,u10,u11,u12,u13,u14,u15][j]?=some u->u.oneCell'=true:=λj u hj=>(Oa hu3 hj).elim λh1 h2=>Jm h1 h2;have e0:u0.oneCell'=true:=ou 0 u0 rfl;have e1:u1.oneCell'=true:=ou 1 u1 rfl;have e2:u2.oneCell'=true:=ou 2 u2 rfl;have e3:u3.oneCell'=true:=ou 3 u3 rfl;have e4:u4.oneCell'=true:=ou 4 u4 rfl;have e5:u5.oneCell'=true:=ou 5 u5 rfl;have e6:u6.oneCell'=true:=ou 6 u6 rfl;have e7:u7.oneCell'=true:=ou 7 u7 rfl;have e8:u8.oneCell'=true:=ou 8 u8 rfl;have e9:u9.oneCell'=true:=ou 9 u9 rfl;have e10:u10.oneCell'=true:=ou 10 u10 rfl;have e11:u11.oneCell'=true:=ou 11 u11 rfl;have e12:u12.oneCell'=true:=ou 12 u12 rfl;have e13:u13.oneCell'=true:=ou 13 u13 rfl;have e14:u14.oneCell'=true:=ou 14 u14 rfl;have e15:u15.oneCell'=true:=ou 15 u15 rfl;obtain⟨w1,s0,b0,r0,z0,o0⟩:=AU (P:=Tryz.prog) (j:=0) (World.alloc_heap_new w (.cells #[.int .i64 0,.int .i64 0,.int .i64 0,.string ⟨#[]⟩,.string ⟨#[]⟩,.int .i64 0,.string ⟨#[]⟩,.int .i64 0,.int .i64 0,.int .i64 0,.slice none 0 0,.int .i64 0,.int .i64 0,.slice none 0 0,.slice none 0 0,.slice none 0 0] 30)) (by simp) e0;obtain⟨w2,s1,b1,r1,z1,o1⟩:=AU (P:=Tryz.prog) (j:=1) b0 (by simp) e1;obtain⟨w3,s2,b2,r2,z2,o2⟩:=AU (P:=Tryz.prog) (j:=2) b1 (by simp) e2;obtain⟨w4,s3,b3,r3,z3,o3⟩:=AU (P:=Tryz.prog) (j:=3) b2 (by simp) e3;obtain⟨w5,s4,b4,r4,z4,o4⟩:=AU (P:=Tryz.prog) (j:=4) b3 (by simp) e4;obtain⟨w6,s5,b5,r5,z5,o5⟩:=AU (P:=Tryz.prog) (j:=5) b4 (by simp) e5;obtain⟨w7,s6,b6,r6,z6,o6⟩:=AU (P:=Tryz.prog) (j:=6) b5 (by simp) e6;obtain⟨w8,s7,b7,r7,z7,o7⟩:=AU (P:=Tryz.prog) (j:=7) b6 (by simp) e7;obtain⟨w9,s8,b8,r8,z8,o8⟩:=AU (P:=Tryz.prog) (j:=8) b7 (by simp) e8;obtain⟨w10,s9,b9,r9,z9,o9⟩:=AU (P:=Tryz.prog) (j:=9) b8 (by simp) e9;obtain⟨w11,s10,b10,r10,z10,o10⟩:=AU (P:=Tryz.prog) (j:=10) b9 (by simp) e10;obtain⟨w12,s11,b11,r11,z11,o11⟩:=AU (P:=Tryz.prog) (j:=11) b10 (by simp) e11;obtain⟨w13,s12,b12,r12,z12,o12⟩:=AU (P:=Tryz.prog) (j:=12) b11 (by simp) e12;obtain⟨w14,s13,b13,r13,z13,o13⟩:=AU (P:=Tryz.prog) (j:=13) b12 (by simp) e13;obtain⟨w15,s14,b14,r14,z14,o14⟩:=AU (P:=Tryz.prog) (j:=14) b13 (by simp) e14;obtain⟨w16,s15,b15,r15,z15,o15⟩:=AU (P:=Tryz.prog) (j:=15) b14 (by simp) e15;simp only[zpq,zAq,zBq]at b0 b1 b2 b3 b4 b5 b6 b7 b8 b9 b10 b11 b12 b13 b14 b15;have dd:∀(j:Nat)(u:Value),[u0,u1,u2,u3,u4,u5,u6,u7,u8,u9,u10,u11,u12,u13,u14,u15][j]?=some u->w16.cell? ⟨w.heap.size,j,none⟩=some u:=λj u hj=>by rw[Me];simp only[hc,b15];simpa using hj
          have d0:=dd 0 u0 rfl;have d1:=dd 1 u1 rfl;have d2:=dd 2 u2 rfl;have d3:=dd 3 u3 rfl;have d4:=dd 4 u4 rfl;have d5:=dd 5 u5 rfl;have d6:=dd 6 u6 rfl;have d7:=dd 7 u7 rfl;have d8:=dd 8 u8 rfl;have d9:=dd 9 u9 rfl;have d10:=dd 10 u10 rfl;have d11:=dd 11 u11 rfl;have d12:=dd 12 u12 rfl;have d13:=dd 13 u13 rfl;have d14:=dd 14 u14 rfl;have d15:=dd 15 u15 rfl;have low:∀b,b<w.heap.size->w16.heap[b]?=w.heap[b]?:=λb hb=>by rw[r15 b (by omega),r14 b (by omega),r13 b (by omega),r12 b (by omega),r11 b (by omega),r10 b (by omega),r9 b (by omega),r8 b (by omega),r7 b (by omega),r6 b (by omega),r5 b (by omega),r4 b (by omega),r3 b (by omega),r2 b (by omega),r1 b (by omega),r0 b (by omega)];exact Below.heap_alloc _ _ _ hb
          have hz:w.heap.size<=w16.heap.size:=by rw[z15,z14,z13,z12,z11,z10,z9,z8,z7,z6,z5,z4,z3,z2,z1,z0];simp
          have Wz:Y9 w w16:=Y9.trans (b:=w1) (Y9.trans (b:=w.alloc (.cells #[.int .i64 0,.int .i64 0,.int .i64 0,.string ⟨#[]⟩,.string ⟨#[]⟩,.int .i64 0,.string ⟨#[]⟩,.int .i64 0,.int .i64 0,.int .i64 0,.slice none 0 0,.int .i64 0,.int .i64 0,.slice none 0 0,.slice none 0 0,.slice none 0 0] 30)) ⟨rfl,rfl,rfl⟩ o0) (((((((((((((((o1).trans o2).trans o3).trans o4).trans o5).trans o6).trans o7).trans o8).trans o9).trans o10).trans o11).trans o12).trans o13).trans o14).trans o15);have hfr:=hf _ _ _ hJ3;have K7:PM E3 w E3 w16:=PM.same hz low hfr;have hJ7:=hI _ _ _ _ hJ3 (Pt.same hz low Wz);rw[zrq hil,Nj]at hrs;obtain⟨sa,hsa,hrs⟩:=D6 hrs;obtain⟨sb,hsb,hrs⟩:=D6 hrs;simp only[D8]at hrs;subst hrs;have B4s:Fence.wide.fn 129:=trivial;have A1r:CallsIn Fence.wide (n-1) Tryz.prog 129 _ w16 _:=callsIn_wide.2 (callsIn_wide.1 (ih _ sa hsa (k+1+pre.length) E3 w16 (.agg #[u0,u1,u2,u3,u4,u5,u6,u7,u8,u9,u10,u11,u12,u13,u14,u15]) hJ7 (RV.mono (kT.trans K7).sh _ (flat_agg hsa hu3)) (A9n Io EP) (by have:=kT.size;omega)));clear ih
          gi_wp2_with ((try refine⟨Rk _,?_⟩);gi_at_call 129;refine A1r.mono ?_;clear A1r;rintro e wz (⟨rfl,E4,hJ4,hK4⟩ | ⟨rfl,hx⟩))
          ·rw[show wrap64 ((i:Int)+1)=((i+1:Nat):Int)by unfold R6 at Yj;rw[wrap64];omega];exact ihr (i+1) (pre++sa) sb E4 wz _ _ _ _ _ _ _ _ _ (by omega) hsb (by rw[EP,z7q]) (by rw[zCq,<- Nat.add_assoc];exact hJ4) ((kT.trans K7).trans hK4)
          ·go_ret
           exact .inr ⟨rfl,hx⟩
       ·go_ret
        exact .inr ⟨rfl,hx2⟩
     |_=>rw[hk]at EQ;simp at EQ
   |_=>simp[BJ]at EQ
set_option maxHeartbeats 1000000 in
theorem B8l:A0A Tryz.prog 128 (TB 16 15):=by
 intro cs ds ZH n l b c T0 J Jx E W hb ho hR hf hI hY h0;obtain⟨m,hm⟩:=A1m ZH;have FD:cs.length=16:=by
  cases m with
  |zero=>simp[BJ]at hm
  |succ m=>rw[BJ]at hm;obtain⟨h1,-⟩:=H6 hm;simpa using h1
 have hlc:=(CS.1 hR).1;obtain⟨l',rfl⟩:∃l':List Value,c=l'.toArray:=⟨c.toList,by simp⟩;simp only at hR hlc
 match l',hlc.symm.trans FD with
 |[v0,v1,v2,v3,v4,v5,v6,v7,v8,v9,v10,v11,v12,v13,v14,v15],_=>
 have cc:∀(j:Nat)(u:Value),[v0,v1,v2,v3,v4,v5,v6,v7,v8,v9,v10,v11,v12,v13,v14,v15][j]?=some u->W.cell? ⟨b,j,none⟩=some u:=λj u hj=>by rw[Me];simp only[hc,hb];simpa using hj
 have c0:=cc 0 v0 rfl;have c1:=cc 1 v1 rfl;have c2:=cc 2 v2 rfl;have c3:=cc 3 v3 rfl;have c4:=cc 4 v4 rfl;have c5:=cc 5 v5 rfl;have c6:=cc 6 v6 rfl;have c7:=cc 7 v7 rfl;have c8:=cc 8 v8 rfl;have c9:=cc 9 v9 rfl;have c10:=cc 10 v10 rfl;have c11:=cc 11 v11 rfl;have c12:=cc 12 v12 rfl;have c13:=cc 13 v13 rfl;have c14:=cc 14 v14 rfl;have c15:=cc 15 v15 rfl;have hgo:CallsIn Fence.wide (n-1) Tryz.prog 129 _ W _:=callsIn_wide.2 (callsIn_wide.1 (B71 l W.heap.size ds J Jx n hf hI hY m (.agg cs) ds hm 0 E W (.agg #[v0,v1,v2,v3,v4,v5,v6,v7,v8,v9,v10,v11,v12,v13,v14,v15]) h0 (by simp only[RV];exact⟨_,rfl,hR⟩) (λj x h=>by rw[Nat.zero_add];exact h) (zmq _)));have B4s:Fence.wide.fn 129:=trivial;have Rk:∀k:Nat,(Fence.wide.depth.isSome=true->1<=k):=λk h=>by cases h
 refine callsIn_of_wp Tryz.func128 rfl trivial ?_;simp only[Tryz.ntmps128,zbq,zeq,zdq,Nat.reduceAdd,Nat.reduceSub,z8q,z9q,zcq,zaq,zjq,zfq]
 gi_wp2_with ((try refine⟨Rk _,?_⟩);gi_at_call 129;refine hgo.mono ?_;clear hgo;rintro e w2 (⟨rfl,E4,hJ4,-⟩ | ⟨rfl,hx⟩))
 ·go_end0
  exact⟨⟨_,rfl⟩,.inl ⟨E4,by simpa using hJ4⟩⟩
 ·go_end0
  exact⟨⟨_,rfl⟩,.inr hx⟩
noncomputable def B7K:ClP where
 i0:=0
 i1:=1
 i2:=2
 i3:=3
 r0:=(opR (Tryz.f176.body.getD .skip) [false] 0)
 r1:=(opR (Tryz.f176.body.getD .skip) [true,false,false] 0)
 r2:=(opR (Tryz.f176.body.getD .skip) [true,false,false] 1)
 r3:=(opR (Tryz.f176.body.getD .skip) [true,false,true,false,false] 0)
 r4:=(opR (Tryz.f176.body.getD .skip) [true,true,false] 0)
 r5:=(opR (Tryz.f176.body.getD .skip) [true,true,false] 1)
 r6:=(opR (Tryz.f176.body.getD .skip) [true,true,false] 2)
 r7:=(opR (Tryz.f176.body.getD .skip) [true,true,false] 3)
 ts:=33
 ty:=C0H (Tryz.f176.body.getD .skip) [true,false,false] 1
theorem B14:wI Tryz.prog 176 1:=B38 (q:=B7K) (by kernel_rfl) Tryz.func176 (by kernel_rfl) (by kernel_rfl) (by kernel_rfl)
end
section
open Go.Proofs
theorem B4N:Tryz.prog.funcs.toList.all (λfn=>fn.name != "runtime.NumGoroutine")=true:=by kernel_rfl
theorem B03{β : Type}{l:List (FuncId×β)}{f:FuncId}{g : β}(h:l.lookup f=some g):(f,g)∈l:=by
 induction l with
 |nil=>cases h
 |cons x l ih=>
   obtain⟨a,b⟩:=x;simp only[List.lookup_cons]at h;by_cases e:f==a
   ·rw[e]at h;simp only[D8]at h;rw[h];rw[eq_of_beq e];exact z0q ..
   ·simp only[e]at h;exact z1q _ (ih h)
theorem B7J:A0z cfg where
 mixed:=by kernel_rfl
 go f fn h:=by
  have h1:fn∈Tryz.prog.funcs.toList:=by have:Tryz.prog.funcs[f]?=some fn:=h;rw[<- Array.getElem?_toList]at this;exact List.mem_of_getElem? this
  have:=znq.1 B4N fn h1;simpa using this
 vO f g h:=by cases h
 clone f h:=by
  have h0:clL.contains f=true:=h;have h1:f∈clL:=by simpa using h0
  simp only[clL,zgq,zHq,or_false]at h1;rcases h1 with rfl
  ·exact⟨by kernel_rfl,B14⟩
 fO f g h:=by
  have h1:(f,g)∈mkL:=B03 h;simp only[mkL,zgq,zHq,or_false,Prod.mk.injEq]at h1;rcases h1 with⟨rfl,rfl⟩ | ⟨rfl,rfl⟩
  ·exact⟨by kernel_rfl,B8v⟩
  ·exact⟨by kernel_rfl,B6E⟩
 iter g it h:=by
  have h1:itF g=some it:=h;unfold itF at h1;split at h1
  ·rename_i e;subst e;cases h1;exact⟨by kernel_rfl,B8l⟩
  split at h1
  ·rename_i e;subst e;cases h1;exact⟨by kernel_rfl,B6x⟩
  ·cases h1
end
section
set_option maxRecDepth 100000
noncomputable section
open Go.Proofs
open Tryz
variable (R: O8)(i j k l m n: Nat)(a b c d e f g h o p q r t u v w x y z I P a5: DV)(s: List E5)
def dX:=eP f7 Nh R [] (I4 f7 [(a,.val),(b,.val)] [])
def Yt:=eP f7 Nh R (pb 63) (ms 146 [(7,a),(10,b),(13,c)] [] [(5,bx d 7),(6,bx e 6),(8,bx f 7),(9,bx g 6),(11,bx h 7),(12,bx o 6)] [])
def Cs:=hP f7 Nh R (pb 4090) (ms 146 [(13,a),(14,b),(15,c),(16,d)] [(14,.own)] [(5,bx e 7),(8,bx f 7),(11,bx g 7)] [])
def zV:dX R a b =
 (og (I5 16 a)<|og (I5 16 b)<|ob (R.p gN [(.list 16 [(X5 a),(X5 b)])]) λq=>M9 q sT (ob (R.p SF [(X5 a)]) λo=>ob (l8 .not o) λn=>M9 n sT (ob (R.p SF [(X5 b)]) λm=>ob (l8 .not m) λl=>G8 l sT (ob (R.p Ck [(X5 a),(iI 65536)]) λx=>ob (Q0 0 x) λw=>ob (Q0 1 x) λu=>ob (Q0 2 x) λk=>og (I5 7 w)<|og (I5 6 u)<|ob (R.p Ck [(X5 b),(iI 65536)]) λy=>ob (Q0 0 y) λv=>ob (Q0 1 y) λt=>ob (Q0 2 y) λj=>og (I5 7 v)<|og (I5 6 t)<|ob (R.p Ck [(.agg ((iI 6)::(J_ (zz5 ((iI 0)::(Fq (Fq [(.list 7 []),(.list 16 [(X5 a),(X5 b)])]))))))),(iI 65536)]) λz=>ob (Q0 0 z) λs=>ob (Q0 1 z) λr=>ob (Q0 2 z) λi=>og (I5 7 s)<|og (I5 6 r)<|Yt R k j i w u v t s r)) none) none):=H7 [6]
def uC:Yt R a b c d e f g h o =
 (ob (D7 .eql a (iI 7)) λx=>M9 x (ob (R.p JV []) λy=>some y) (ob (D7 .eql b (iI 7)) λz=>M9 z (ob (R.p JV []) λw=>some w) (ob (D7 .eql c (iI 7)) λu=>G8 u (ob (R.p JV []) λv=>some v) (ob (D7 .neq a (iI 0)) λt=>G8 t (ob (D7 .eql c a) λs=>M9 s (ob (tY [.int,.int,.int,.int,.int,.str] (.agg [(C8 0 o),(C8 1 o),(C8 2 o),(C8 3 o),(C8 4 o),(C8 5 o)]) (.agg [(C8 0 e),(C8 1 e),(C8 2 e),(C8 3 e),(C8 4 e),(C8 5 e)])) λg=>M9 (.bool g) (ob (R.p JV []) λr=>some r) sF none) sF none) (ob (D7 .neq b (iI 0)) λq=>G8 q (ob (D7 .eql c b) λn=>M9 n (ob (tY [.int,.int,.int,.int,.int,.str] (.agg [(C8 0 o),(C8 1 o),(C8 2 o),(C8 3 o),(C8 4 o),(C8 5 o)]) (.agg [(C8 0 g),(C8 1 g),(C8 2 g),(C8 3 g),(C8 4 g),(C8 5 g)])) λb13=>M9 (.bool b13) (ob (R.p JV []) λm=>some m) sF none) sF none) (ob (R.p ZQ [(CB f)]) λl=>
 Cs R c (.list 4 []) l (iI 0) d f h)))) none) none):=H7 [6]
def Un:Cs R a b c d e f g =
 (ob (O6 c) λv=>ob (D7 .lss d v) λt=>G8 t (ob (O0 1 c d) λx=>og (M8 x)<|ob (R.p ZQ [(CB e)]) λs=>ob (O6 s) λr=>ob (O0 1 c d) λy=>og (M8 y)<|ob (D7 .add r y) λz=>og (I9 z)<|og (I9 x)<|ob (Dh 4 b (.list 4 [(.agg [x,(iI 6),z,(.list 3 [])])])) λq=>ob (D7 .add d (iI 1)) λo=>Cs R a q c o e f g) (ob (R.p WW [(CB f),b]) λw=>ob (Q0 0 w) λu=>ob (Q0 1 w) λn=>og (I5 3 u)<|ob (D7 .eql a (iI 0)) λm=>M9 m (ob (D7 .eql n (iI 0)) λl=>M9 l (ob (R.p Xc [(iI 7),(CB e),(CB u)]) λk=>ob (R.p SC [(CB g),k]) λj=>M9 j (ob (R.p JV []) λi=>some i) sF none) sF none) sF none)):=L8 [6]
def xO:C9.p dU [a,b]=dX C9 a b:=CP func7
def xY:=eP f9 bH R [] (I4 f9 [(a,.val)] [])
def WZ:=hP f9 bH R (pb 122) (ms 22 [(0,a),(3,b),(4,c)] [] [] [])
def uB:xY R a =
 (ob (R.p gM [a]) λx=>G8 x sT (WZ R a (iI 0) (iI 0))):=H7 []
def Um:WZ R a b c =
 (ob (O6 a) λx=>ob (D7 .lss c x) λy=>G8 y (ob (O0 16 a c) λz=>ob (R.p ZT [(X5 z)]) λw=>ob (D7 .add b w) λu=>ob (D7 .add c (iI 1)) λv=>WZ R a u v) (ob (D7 .gtr b (iI 90)) λt=>some t)):=L8 []
def qX:C9.p gN [a]=xY C9 a:=CP func9
def xU:=eP f11 bD R [] (I4 f11 [(a,.val),(b,.val)] [])
def FL:=hP f11 bD R (pb 4090) (ms 76 [(50,a),(51,b),(52,c)] [(7,(.ptr i 0)),(12,(F4.map j))] [(4,bv (Fq [(.list 3 []),(.list 1 []),(.list 3 []),(iI 0)])),(5,some zb0),(10,bx d 3),(11,bx e 3)] s)
def A5I:xU R a b =
 (og (I5 16 a)<|ob (R.p UJ [(X5 a)]) λz=>ob (D7 .neq z (iI 0)) λw=>G8 w (some (.J6 [(.agg (Fq [(.list 3 []),(.list 1 []),(.list 3 []),(iI 0)])),(.agg (wH (J_ []))),(iI 1)])) (oc (R.r gV [(b,.val)] []) λq3 s3=>ob (A5B q3) λi4=>ob (R.r Bt [(.undef,(.ptr s3.length 0)),((X5 a),.val),((iI 1),.val),((.list 3 []),.val)] (s3++[E5.box ((pt i4)::(zz4 [((iI 0),.val)]))])) λq5=>ob (Q0 0 (.J6 q5.1)) λs=>ob (Q0 1 (.J6 q5.1)) λx=>og (I5 4 x)<|oc (R.r FI [(.undef,(.ptr s3.length 0)),((.agg [(C8 0 x),(C8 1 x),(C8 2 x),(C8 3 x)]),.val)] q5.2) λq8 s8=>og (I5 3 q8)<|oc (R.r GM [(.undef,(.ptr s3.length 0)),((.agg [(C8 0 x),(C8 1 x),(C8 2 x),(C8 3 x)]),.val)] s8) λq9 s9=>
 og (I5 3 q9)<|oc (R.r U1 [(.undef,(.ptr s3.length 0))] s9) λq10 s10=>ob (l8 .not q10) λu=>G8 u (ob (H5 s10 s3.length) λc12=>ob (Vo 1 6 c12) λe13=>ob (H5 s10 s3.length) λc14=>ob (U6 c14 7) λv=>og (I5 6 (.agg e13))<|some (.J6 [(.agg (Fq [(.list 3 []),(.list 1 []),(.list 3 []),(iI 0)])),(.agg [(C8 0 (.agg e13)),(C8 1 (.agg e13)),(C8 2 (.agg e13)),(C8 3 (.agg e13)),(C8 4 (.agg e13)),(C8 5 (.agg e13))]),v])) (ob (R.p ZV [(.agg [(C8 0 q8),(C8 1 q8),(C8 2 q8)])]) λy=>ob (O6 y) λt=>FL R (s3.length) (s10.length) y t (iI 0) q8 q9 (s10++[E5.map false []])))):=H7 []
def aj:FL R i j a b c d e s =
 (ob (D7 .lss c b) λy=>G8 y (ob (O0 1 a c) λx=>og (M8 x)<|oc (R.r Dc [(.undef,(F4.map j)),(x,.val)] s) λq3 s3=>ob (D7 .add c (iI 1)) λz=>FL R i j a b z d e s3) (oc (R.r IB [(.undef,(F4.map j)),((CB e),.val)] s) λq5 s5=>oc (R.r GK [(.undef,(F4.map j)),((CB d),.val)] s5) λq6 s6=>oc (R.r KA [(.undef,(F4.map j)),((CB e),.val)] s6) λq7 s7=>ob (H5 s7 i) λc8=>ob (X8 c8 0) λi9=>Mv (s7[i]?=s6[i]?)<|Mv (s6[i]?=s5[i]?)<|oc (R.r Oq [(pt i9)] s7) λq10 s10=>og (I5 3 q6)<|og (I5 3 q7)<|og (I9 q10)<|some (.J6 [(.agg [(C8 0 q6),(C8 1 q6),(C8 2 q6),(C8 0 q7),(C8 1 q7),(C8 2 q7),q10]),(.agg (wH (J_ []))),(iI 0)]))):=L8 []
def A4B:C9.p Ck [a,b]=xU C9 a b:=CP func11
def xV:=eP f13 bF R [] (I4 f13 [(a,.val),(b,.val)] [])
def Qp:=hP f13 bF R (pb 58) (ms 46 [(5,a)] [] [(2,bx b 3),(3,bx c 3)] [])
def A5J:xV R a b =
 (og (I5 3 a)<|og (I5 3 b)<|ob (D7 .neq (C8 0 a) (C8 0 b)) λx=>M9 x sF (ob (D7 .neq (C8 1 a) (C8 1 b)) λy=>M9 y sF (ob (O6 (C8 2 a)) λz=>ob (O6 (C8 2 b)) λw=>ob (D7 .neq z w) λu=>G8 u sF (Qp R (iI 0) a b)) none) none):=H7 []
def eH:Qp R a b c =
 (ob (O6 (C8 2 b)) λx=>ob (D7 .lss a x) λy=>G8 y (ob (O0 3 (C8 2 b) a) λz=>ob (O0 3 (C8 2 c) a) λw=>ob (R.p SC [(CB z),(CB w)]) λu=>ob (l8 .not u) λv=>G8 v sF (ob (D7 .add a (iI 1)) λt=>Qp R t b c)) sT):=L8 []
def A4C:C9.p SC [a,b]=xV C9 a b:=CP func13
def xZ:=eP f16 bI R [] (I4 f16 [] [])
def qI:=eP f16 bI R (pb 63) (ms 70 [(3,a),(7,b),(10,c)] [] [(1,bx d 7),(4,bv [(iI 6),(iI 0),(.list 3 [])]),(6,bx e 6)] [])
def A5L:xZ R =
 (ob (R.p mD []) λv=>ob (R.p Ck [v,(iI 100)]) λx=>ob (Q0 0 x) λw=>ob (Q0 1 x) λt=>ob (Q0 2 x) λs=>og (I5 7 w)<|og (I5 6 t)<|ob (R.p Ck [(.agg ((iI 16)::(J_ (zz5 ((iI 1)::(Fq (Fq [(.list 7 []),(.list 16 [(.agg ((iI 2)::(J_ (dM [])))),(.agg ((iI 5)::(iI 4)::(iI 6)::(.str ⟨#[]⟩)::(dM [])))])]))))))),(iI 100)]) λy=>ob (Q0 0 y) λr=>ob (Q0 1 y) λu=>ob (Q0 2 y) λq=>og (I5 7 r)<|og (I5 6 u)<|ob (R.p mD []) λo=>ob (R.p Ck [o,(iI 1)]) λz=>ob (Q0 0 z) λn=>
 ob (Q0 1 z) λm=>ob (Q0 2 z) λl=>og (I5 7 n)<|og (I5 6 m)<|qI R s q l w u):=H7 [5]
def A2i:qI R a b c d e =
 (ob (D7 .eql a (iI 0)) λx=>M9 x (ob (R.p Xc [(iI 9),(.agg [(iI 6),(iI 0),(.list 3 [])]),(.agg [(iI 6),(iI 0),(.list 3 [])])]) λy=>ob (R.p SC [(CB d),y]) λz=>M9 z (ob (O6 (C8 3 d)) λw=>ob (D7 .eql w (iI 1)) λu=>M9 u (ob (D7 .eql (C8 6 d) (iI 7)) λv=>M9 v (ob (D7 .eql b (iI 4)) λt=>M9 t (ob (tY [.int,.int,.int,.int,.int,.str] (.agg [(C8 0 e),(C8 1 e),(C8 2 e),(C8 3 e),(C8 4 e),(C8 5 e)]) (.agg [(iI 4),(iI 6),(iI 4),(iI 4),(iI 1),(.str ⟨#[]⟩)])) λb8=>M9 (.bool b8) (ob (D7 .eql c (iI 7)) λs=>some s) sF none) sF none) sF none) sF none) sF none) sF none):=H7 [5]
def A2e{d:DV}(h:xZ C9=some d):C9.p JV []=some d:=B0k func16 (by kernel_rfl) (by kernel_rfl) (by kernel_rfl) h
def xu:=eP f17 Uz R [] (I4 f17 [(a,.val)] [])
def MS:=hP f17 Uz R (pb 58) (ms 36 [(3,a)] [] [(1,bx b 16)] [])
def Qq:=hP f17 Uz R (pb 122) (ms 36 [(4,a)] [] [(1,bx b 16)] [])
def A5T:xu R a =
 (og (I5 16 a)<|ob (R.p sP [(X5 a)]) λx=>ob (l8 .not x) λy=>G8 y sF (MS R (iI 0) a)):=H7 []
def eT:MS R a b =
 (ob (O6 (C8 14 b)) λx=>ob (D7 .lss a x) λy=>G8 y (ob (O0 7 (C8 14 b) a) λz=>ob (R.p WV [(Ta z)]) λw=>ob (l8 .not w) λu=>G8 u sF (ob (D7 .add a (iI 1)) λv=>MS R v b)) (Qq R (iI 0) b)):=L8 []
def eU:Qq R a b =
 (ob (O6 (C8 15 b)) λx=>ob (D7 .lss a x) λy=>G8 y (ob (O0 16 (C8 15 b) a) λz=>ob (R.p SF [(X5 z)]) λw=>ob (l8 .not w) λu=>G8 u sF (ob (D7 .add a (iI 1)) λv=>Qq R v b)) sT):=L8 []
def A4K:C9.p SF [a]=xu C9 a:=CP func17
def xm:=eP f20 bK R [] (I4 f20 [(a,.val)] [])
def Jb:=hP f20 bK R (pb 58) (ms 45 [(3,a)] [] [(1,bx b 3)] [])
def A5R:xm R a =
 (og (I5 3 a)<|ob (R.p mF [(C8 0 a)]) λx=>ob (O6 (C8 2 a)) λy=>ob (D7 .neq x y) λz=>M9 z sF (ob (D7 .lss (C8 1 a) (iI 0)) λw=>M9 w sF (ob (D7 .gtr (C8 1 a) (iI 1048576)) λu=>M9 u sF (ob (D7 .neq (C8 0 a) (iI 6)) λv=>M9 v (ob (D7 .neq (C8 1 a) (iI 0)) λt=>G8 t sF (Jb R (iI 0) a)) (Jb R (iI 0) a) none) none) none) none):=H7 []
def eQ:Jb R a b =
 (ob (O6 (C8 2 b)) λx=>ob (D7 .lss a x) λy=>G8 y (ob (O0 3 (C8 2 b) a) λz=>ob (R.p XN [(CB z)]) λw=>ob (l8 .not w) λu=>G8 u sF (ob (D7 .add a (iI 1)) λv=>Jb R v b)) sT):=L8 []
def A4I:C9.p XN [a]=xm C9 a:=CP func20
def A3d:=eP f25 ng R [] (I4 f25 [(a,.val),(b,.val)] [])
def Ua:=hP f25 ng R (pb 26) (ms 18 [(0,a),(1,b),(5,c)] [] [] [])
def B0D:A3d R a b =
 (Ua R a b (iI 0)):=H7 []
def qW:Ua R a b c =
 (ob (O6 a) λy=>ob (D7 .lss c y) λz=>G8 z (ob (O0 1 a c) λx=>og (M8 x)<|ob (D7 .eql x b) λw=>G8 w sT (ob (D7 .add c (iI 1)) λu=>Ua R a b u)) sF):=L8 []
def A8z:C9.p sO [a,b]=A3d C9 a b:=CP func25
def A0C:=eP f27 yM R [] (I4 f27 [(a,.val)] [])
def A8j:A0C R a =
 (og (I9 a)<|some (.agg ((iI 1)::(iI 0)::(iI 0)::a::(dM [])))):=H7 []
def A57:C9.p ZP [a]=A0C C9 a:=CP func27
def A0I:=eP f29 yQ R [] (I4 f29 [(a,.val)] [])
def A8p:A0I R a =
 (og (I5 3 a)<|oc (R.r ZR [((CB a),.val),((.list 1 []),.own)] []) λq1 s1=>some q1):=H7 []
def A6e:C9.p ZQ [a]=A0I C9 a:=CP func29
def jD:=eP f30 VA R [] (I4 f30 [(a,.val),(b,.val)] [])
def Ik:=hP f30 VA R (pb 122) (ms 56 [(1,a),(16,b),(17,c),(18,d)] [(6,(F4.map 0))] [(2,bx e 3),(4,some zb1)] s)
def A06:jD R a b =
 (og (I5 3 a)<|ob (R.p OZ [(CB a)]) λx=>ob (D7 .neq x (iI 0)) λy=>G8 y (some (.J6 [(.agg (Fq [])),(iI 1)])) (ob (O6 b) λz=>Ik R b b z (iI 0) a [E5.map false []])):=H7 []
def YB:Ik R a b c d e s =
 (ob (D7 .lss d c) λy=>G8 y (ob (O0 4 b d) λx=>ob (D7 .lss (C8 0 x) (iI 0)) λz=>M9 z (some (.J6 [(.agg (Fq [])),(iI 1)])) (ob (D7 .gtr (C8 0 x) (iI 1048576)) λw=>M9 w (some (.J6 [(.agg (Fq [])),(iI 1)])) (ob (R.p OZ [(.agg [(C8 1 x),(C8 2 x),(C8 3 x)])]) λu=>ob (D7 .neq u (iI 0)) λv=>G8 v (some (.J6 [(.agg (Fq [])),(iI 1)])) (og (Z4 false (C8 0 x)&&true)<|ob (Q5 s 0) λm7=>og (m7.1==false)<|ob (l8 .not (.bool (V7 m7.2 (C8 0 x)).isSome)) λt=>G8 t (og (Z4 false (C8 0 x)&&true&&true)<|ob (Q5 s 0) λm9=>og (m9.1==false)<|ob (D7 .add d (iI 1)) λq=>Ik R a b c q e (s.set 0 (E5.map false (Bb m9.2 (C8 0 x) d)))) (ob (D7 .add d (iI 1)) λo=>Ik R a b c o e s))) none) none) (oc (R.r UH [((CB e),.val),(a,.val),(.undef,(F4.map 0))] s) λq12 s12=>og (I5 3 q12)<|some (.J6 [(.agg [(C8 0 q12),(C8 1 q12),(C8 2 q12)]),(iI 0)]))):=L8 []
def zi:C9.p WW [a,b]=jD C9 a b:=CP func30
def A3c:=eP f31 A1l R [] (I4 f31 [(a,.val),(b,.val),(c,.val)] [])
def B0C:A3c R a b c =
 (og (I5 3 b)<|og (I5 3 c)<|og (I9 a)<|some (.agg [a,(iI 0),(.list 3 [(CB b),(CB c)])])):=H7 []
def A8y:C9.p Xc [a,b,c]=A3c C9 a b c:=CP func31
def qJ:=eP f32 Wt R [] (I4 f32 [(a,.val),(b,.val)] [])
def Jk:=hP f32 Wt R (pb 58) (ms 25 [(1,a),(5,b)] [] [(2,bx c 3)] [])
def A2j:qJ R a b =
 (og (I5 3 a)<|ob (D7 .eql (C8 0 a) b) λx=>G8 x sF (Jk R b (iI 0) a)):=H7 []
def Y_:Jk R a b c =
 (ob (O6 (C8 2 c)) λx=>ob (D7 .lss b x) λy=>G8 y (ob (O0 3 (C8 2 c) b) λz=>ob (R.p Sk [(CB z),a]) λw=>ob (l8 .not w) λu=>G8 u sF (ob (D7 .add b (iI 1)) λv=>Jk R a v c)) sT):=L8 []
def A1g:C9.p Sk [a,b]=qJ C9 a b:=CP func32
def xW:=eP f35 bG R [] (I4 f35 [(a,.val)] [])
def WY:=hP f35 bG R (pb 58) (ms 19 [(0,a),(3,b),(4,c)] [] [] [])
def A5K:xW R a =
 (WY R a (iI 0) (iI 0)):=H7 []
def Uk:WY R a b c =
 (ob (O6 a) λx=>ob (D7 .lss c x) λy=>G8 y (ob (O0 16 a c) λz=>ob (R.p OX [(X5 z),b]) λw=>ob (D7 .add c (iI 1)) λu=>WY R a w u) (ob (D7 .gtr b (iI 400)) λv=>some v)):=L8 []
def A4D:C9.p gM [a]=xW C9 a:=CP func35
def A0K:=eP f36 iW R [] (I4 f36 [(a,.val)] [])
def Sv:=hP f36 iW R (pb 58) (ms 21 [(3,a),(4,b)] [] [(1,bx c 16)] [])
def A8r:A0K R a =
 (og (I5 16 a)<|Sv R (iI 1) (iI 0) a):=H7 []
def jo:Sv R a b c =
 (ob (O6 (C8 15 c)) λx=>ob (D7 .lss b x) λy=>G8 y (ob (O0 16 (C8 15 c) b) λz=>ob (R.p ZT [(X5 z)]) λw=>ob (D7 .add a w) λu=>ob (D7 .add b (iI 1)) λv=>Sv R u v c) (some a)):=L8 []
def A6g:C9.p ZT [a]=A0K C9 a:=CP func36
def eF:Code:=f39.body.getD .skip
def sW:=eP f39 OT R [] (I4 f39 [(a,.val)] [])
def df:=eP f39 OT R (pb 26) (ms 10 [(0,a),(3,(.J6 [])),(4,b),(6,(.J6 [])),(7,(.J6 [])),(8,(.J6 [])),(9,(.J6 []))] [(1,(.ptr 0 0)),(2,(.ptr 1 0)),(5,(.fn 128 [(2,0)]))] [] s)
def sM:Code:=match (sub [true,false,true,false] eF []).1 with
 |.rangeFunc _ _ a b=>.seq a b
 |c=>c
def II(R:O8)(t0 t4:DV)(o:Out)(sg:List E5):Option DV:=oH cfg R OT (XE cfg.P f39) [true,false,true,false] eF o (Ae ⟨spread .undef 10 0 [(0,t0),(3,(.J6 [])),(4,t4),(6,(.J6 [])),(7,(.J6 [])),(8,(.J6 [])),(9,(.J6 []))],spread .val 10 0 [(1,(.ptr 0 0)),(2,(.ptr 1 0)),(5,(.fn 128 [(2,0)]))],spread none 10 0 [],[]⟩ sg)
def UF(R:O8)(t0 t4:DV)(I:List E5->Option DV)(x:DV)(sg:List E5):Option DV:=Ut cfg R OT (kr I (II R t0 t4)) [] sM (mst 10 [(6,x)] [(2,(.ptr 1 0))] [] sg)
def Ku(R:O8)(t0 t4:DV):List DV->List E5->Option DV:=Ml (λx I sg=>UF R t0 t4 I x sg) (II R t0 t4 .normal)
def A4s:sW R a =
 (og (I5 16 a)<|df R a (X5 a) [E5.box [((C8 0 a),.val),((C8 1 a),.val),((C8 2 a),.val),((C8 3 a),.val),((C8 4 a),.val),((C8 5 a),.val),((C8 6 a),.val),((C8 7 a),.val),((C8 8 a),.val),((C8 9 a),.val),((C8 10 a),.val),((C8 11 a),.val),((C8 12 a),.val),((C8 13 a),.val),((C8 14 a),.val),((C8 15 a),.val)],E5.box [((iI 0),.val)],E5.box [((C8 0 a),.val),((C8 1 a),.val),((C8 2 a),.val),((C8 3 a),.val),((C8 4 a),.val),((C8 5 a),.val),((C8 6 a),.val),((C8 7 a),.val),((C8 8 a),.val),((C8 9 a),.val),((C8 10 a),.val),((C8 11 a),.val),((C8 12 a),.val),((C8 13 a),.val),((C8 14 a),.val),((C8 15 a),.val)]]):=H7 []
def zY:df R a b s =
 ob (H5 s 2) λcs=>ob (Mc cs) λcd=>ob (TB 16 15 cd) λds=>Ku R a b ds (s.set 2 (.arr 1 [])):=(A9G (t:=5) (f:=128) (i:=2) (q:=6) (it:=TB 16 15) (by kernel_rfl) (by kernel_rfl) (by kernel_rfl) (by kernel_rfl)).trans (by kernel_rfl)
theorem rC(R:O8)(t0 t4:DV)(sg:List E5):Ku R t0 t4 [] sg=II R t0 t4 .normal sg:=rfl
theorem mJ(R:O8)(t0 t4 x:DV)(ds:List DV)(sg:List E5):Ku R t0 t4 (x::ds) sg=UF R t0 t4 (Ku R t0 t4 ds) x sg:=rfl
def tu(R:O8)(t0 t4:DV)(I:List E5->Option DV)(x:DV)(sg:List E5):UF R t0 t4 I x sg=(og (I5 16 x)<|ob (R.p mH [(X5 x)]) λy=>ob (l8 .not y) λz=>G8 z (ob (H5 sg 1) λc3=>ob (c3[0]?) λu4=>II R t0 t4 .ret (sg.set 1 (E5.box (c3.set 0 ((iI 1),.val))))) (I sg)):=H7 []
def ZY:II R a b .normal s =
 (ob (H5 s 1) λc1=>ob (c1[0]?) λu2=>B1r (ob (H5 (s.set 1 (E5.box (c1.set 0 ((iI 0),.val)))) 1) λc=>oneCell (s.set 1 (E5.box (c1.set 0 ((iI 0),.val)))) c)):=wh [] (by kernel_rfl)
def h_:II R a b .ret s=(B1r (ob (H5 s 1) λc=>oneCell s c)):=wh [] (by kernel_rfl)
def A2y:C9.p UJ [a]=sW C9 a:=CP func39
def xy:=eR f40 TF bM R [] (I4 f40 [(a,.val)] s)
def GZ:=hR f40 TF bM R (pb 58) (ms 30 [(11,a),(12,b),(13,c)] [(3,(.ptr i 0))] [] s)
def A5X:xy R a s=(ob (zT a (iI 0)) λy=>ob (ae y (iI 65536)) λx=>og (I9 x)<|GZ R (s.length) (.list 1 [(iI 1),(iI 2),(iI 3),(iI 4),(iI 5)]) (iI 5) (iI 0) (s++[E5.box [((.list 5 []),.full),(x,.val),((iI 0),.val),((iI 0),.val)]])):=H7 []
def Ur:GZ R i a b c s =
 (ob (D7 .lss c b) λy=>G8 y (ob (O0 1 a c) λx=>og (M8 x)<|ob (H5 s i) λc3=>ob (B1N s i 0 c3 5) λv4=>og (I9 x)<|ob (V5 v4.1 v4.2.1 v4.2.2.1) λa5=>og (a5.1==5&&true&&decide (v4.2.2.2<=a5.2.length))<|ob (KJ 5 (.list 5 (a5.2.take v4.2.2.2)) (.list 5 [(.agg [x,(iI 0),(.int .i64 (-1)),(.list 1 []),(iI 0)])])) λp6=>ob (H5 (v4.1.set v4.2.1 (E5.P9 (v4.2.2.1+1) 5 (p6.1++p6.2))) i) λc7=>ob (c7[0]?) λu8=>ob (D7 .add c (iI 1)) λz=>GZ R i a b z ((v4.1.set v4.2.1 (E5.P9 (v4.2.2.1+1) 5 (p6.1++p6.2))).set i (E5.box (c7.set 0 (.undef,(.P9 v4.2.1 (v4.2.2.1+1) 5 (p6.1.length+p6.2.length))))))) (some ([(.int .u64 (i:Nat))],s))):=L8 []
def A4M:C9.r gV [(a,.val)] s=xy C9 a s:=BL (s:=TF) func40
end
end
section
set_option maxRecDepth 100000
noncomputable section
open Go.Proofs
open Tryz
variable (R: O8)(i j k l m n: Nat)(a b c d e f g h o p q r t u v w x y z X Y: DV)(s: List E5)
def Vy:=eR f41 Et JD R [] (I4 f41 [(pt i),(a,.val),(b,.val),(c,.val)] s)
def O4:=eR f41 Et JD R (pb 31) (ms 152 [(11,a)] [(10,(.ptr i 0))] [(9,bv [b,c,d,e])] s)
def Li(R:O8)(t0i:Nat)(t2 t3:DV)(t10i:Nat)(t17 b5:DV)(sg:List E5):Option (List DV×List E5):=eR f41 Et JD R (pb 125951) (ms 152 [(2,t2),(3,t3),(11,(iI 0)),(17,t17)] [(0,(.ptr t0i 0)),(10,(.ptr t10i 0))] [(5,bx b5 16),(9,bv (zz7 []))] sg)
def mZ:Vy R i a b c s =
 (og (I5 16 a)<|ob (QR (s++[E5.box [((iI 0),.val),((.list 1 []),.full),((.list 1 []),.full),((.list 4 []),.full)]]) s.length [1]) λg1=>ob (D7 .eql (C8 0 a) (iI 1)) λx=>G8 x (oc (R.r KF [(pt i),((X5 a),.val),(b,.val),(c,.val),(.undef,(.ptr s.length 0))] g1) λq3 s3=>O4 R (s.length) q3 (iI 0) (.list 1 []) (.list 1 []) (.list 4 []) s3) (ob (D7 .eql (C8 0 a) (iI 2)) λy=>G8 y (ob (D7 .sub (C8 0 a) (iI 2)) λz=>O4 R (s.length) z (iI 0) (.list 1 []) (.list 1 []) (.list 4 []) g1) (ob (D7 .eql (C8 0 a) (iI 3)) λw=>G8 w (ob (D7 .sub (C8 0 a) (iI 2)) λu=>O4 R (s.length) u (iI 0) (.list 1 []) (.list 1 []) (.list 4 []) g1) (ob (D7 .eql (C8 0 a) (iI 4)) λv=>G8 v (ob (D7 .sub (C8 0 a) (iI 2)) λt=>O4 R (s.length) t (iI 0) (.list 1 []) (.list 1 []) (.list 4 []) g1) (ob (D7 .eql (C8 0 a) (iI 5)) λq=>G8 q (ob (D7 .sub (C8 0 a) (iI 2)) λp=>
 O4 R (s.length) p (iI 0) (.list 1 []) (.list 1 []) (.list 4 []) g1) (ob (D7 .eql (C8 0 a) (iI 6)) λo=>G8 o (oc (R.r O7 [(pt i),((X5 a),.val),((iI 0),.val),(b,.val),(c,.val),(.undef,(.ptr s.length 0))] g1) λq13 s13=>oc (R.r O7 [(pt i),((X5 a),.val),((iI 1),.val),(b,.val),(c,.val),(.undef,(.ptr s.length 0))] s13) λq14 s14=>oc (R.r BI [(pt i),((iI 7),.val),(q13,.val),(q14,.val)] s14) λq15 s15=>O4 R (s.length) q15 (iI 0) (.list 1 []) (.list 1 []) (.list 4 []) s15) (ob (D7 .eql (C8 0 a) (iI 7)) λn=>G8 n (oc (R.r Z6 [(pt i),(b,.val)] g1) λq17 s17=>og (I9 q17)<|ob (H5 s17 s.length) λc18=>ob (c18[1]?) λu19=>oc (R.r BI [(pt i),((iI 8),.val),(q17,.val),((iI 0),.val)] (s17.set s.length (E5.box (c18.set 1 ((.list 1 [q17]),.full))))) λq20 s20=>
 O4 R (s.length) q20 (iI 0) (.list 1 []) (.list 1 []) (.list 4 []) s20) (ob (D7 .eql (C8 0 a) (iI 8)) λm=>G8 m (oc (R.r KE [(pt i),((X5 a),.val),(b,.val),(c,.val),(.undef,(.ptr s.length 0))] g1) λq22 s22=>O4 R (s.length) q22 (iI 0) (.list 1 []) (.list 1 []) (.list 4 []) s22) (Li R i b c (s.length) (C8 0 a) a g1))))))))):=H7 [20,39]
def dP:O4 R i a b c d e s =
 (ob (H5 s i) λc1=>og (I9 a)<|ob (c1[0]?) λu2=>ob (H5 (s.set i (E5.box (c1.set 0 (a,.val)))) i) λc3=>ob (Vo 0 4 c3) λe4=>og (I5 4 (.agg e4))<|some ([a,(.agg [(C8 0 (.agg e4)),(C8 1 (.agg e4)),(C8 2 (.agg e4)),(C8 3 (.agg e4))])],(s.set i (E5.box (c1.set 0 (a,.val)))))):=H7 [20,39]
def dO(R:O8)(t0i:Nat)(t2 t3:DV)(t10i:Nat)(t17 b5:DV)(sg:List E5):Li R t0i t2 t3 t10i t17 b5 sg =
 (ob (D7 .eql t17 (iI 9)) λx=>G8 x (oc (R.r FJ [(pt t0i),((.agg [(C8 8 b5),(C8 9 b5),(C8 10 b5)]),.val),(t2,.val),(pt t10i)] sg) λq2 s2=>og (I9 (C8 3 b5))<|og (I9 q2)<|oc (R.r DK [(t3,.val),((.list 3 [(.agg [(C8 3 b5),q2,(.list 1 [])])]),.val)] s2) λq3 s3=>oc (R.r O7 [(pt t0i),((X5 b5),.val),((iI 0),.val),(t2,.val),(q3,.val),(pt t10i)] s3) λq4 s4=>oc (R.r BI [(pt t0i),((iI 9),.val),(q2,.val),(q4,.val)] s4) λq5 s5=>O4 R t10i q5 (iI 0) (.list 1 []) (.list 1 []) (.list 4 []) s5) (ob (D7 .eql t17 (iI 10)) λy=>G8 y (oc (R.r Kk [(pt t0i),((X5 b5),.val),(t2,.val),(t3,.val),(pt t10i)] sg) λq7 s7=>O4 R t10i q7 (iI 0) (.list 1 []) (.list 1 []) (.list 4 []) s7) (ob (D7 .eql t17 (iI 11)) λz=>G8 z (oc (R.r Kn [(pt t0i),((X5 b5),.val),(t2,.val),(t3,.val),(pt t10i)] sg) λq9 s9=>
 O4 R t10i q9 (iI 0) (.list 1 []) (.list 1 []) (.list 4 []) s9) (ob (D7 .eql t17 (iI 12)) λw=>G8 w (oc (R.r Ko [(pt t0i),((X5 b5),.val),(t2,.val),(t3,.val),(pt t10i)] sg) λq11 s11=>O4 R t10i q11 (iI 0) (.list 1 []) (.list 1 []) (.list 4 []) s11) (ob (D7 .eql t17 (iI 13)) λu=>G8 u (oc (R.r KD [(pt t0i),((X5 b5),.val),(t2,.val),(t3,.val),(pt t10i)] sg) λq13 s13=>O4 R t10i q13 (iI 0) (.list 1 []) (.list 1 []) (.list 4 []) s13) (ob (D7 .eql t17 (iI 14)) λv=>G8 v (oc (R.r Ir [(pt t0i),((X5 b5),.val),(t2,.val),(t3,.val),(pt t10i)] sg) λq15 s15=>O4 R t10i q15 (iI 0) (.list 1 []) (.list 1 []) (.list 4 []) s15) (ob (D7 .eql t17 (iI 15)) λt=>G8 t (oc (R.r O7 [(pt t0i),((X5 b5),.val),((iI 0),.val),(t2,.val),(t3,.val),(pt t10i)] sg) λq17 s17=>
 oc (R.r He [(pt t0i),((.agg [(C8 8 b5),(C8 9 b5),(C8 10 b5)]),.val)] s17) λq18 s18=>ob (O0 16 (C8 15 b5) (iI 0)) λs=>oc (R.r R9 [(pt t0i),(q17,.val),(q18,.val),((X5 s),.val)] s18) λq20 s20=>O4 R t10i q18 (iI 0) (.list 1 []) (.list 1 []) (.list 4 []) s20) (ob (D7 .eql t17 (iI 16)) λq=>G8 q (oc (R.r ME [(pt t0i),((X5 b5),.val),(t2,.val),(t3,.val),(pt t10i)] sg) λq22 s22=>O4 R t10i q22 (iI 0) (.list 1 []) (.list 1 []) (.list 4 []) s22) (O4 R t10i (iI 0) (iI 0) (.list 1 []) (.list 1 []) (.list 4 []) sg))))))))):=H7 [20,39]
def kH:C9.r Bt [(.undef,(.ptr i 0)),(a,.val),(b,.val),(c,.val)] s=Vy C9 i a b c s:=BL (s:=Et) func41
def UW:=eR f42 HZ Mh R [] (I4 f42 [(pt i),(a,.val)] s)
def GA:=hR f42 HZ Mh R (pb 250) (ms 39 [(28,a),(29,b),(30,c)] [(0,(.ptr i 0))] [(4,bv [d,e,f]),(5,bx g 3)] s)
def je:UW R i a s =
 (og (I5 4 a)<|oc (R.r U1 [(pt i)] s) λq1 s1=>ob (l8 .not q1) λy=>G8 y (some ([(.agg (Fq []))],s1)) (ob (H5 s1 i) λc3=>ob (X8 c3 0) λi4=>ob (R.r Hf [(pt i4),((C8 0 a),.val)] s1) λq5=>ob (Q0 0 (.J6 q5.1)) λx=>ob (Q0 1 (.J6 q5.1)) λz=>og (I5 3 x)<|oc (R.r S9 [(pt i),(z,.val),((.agg (wH (J_ []))),.val)] q5.2) λq8 s8=>ob (O6 (C8 3 a)) λw=>GA R i (C8 3 a) w (iI 0) (iI 0) (iI 0) (.list 3 []) x s8)):=H7 []
def QK:GA R i a b c d e f g s =
 (ob (D7 .lss c b) λy=>G8 y (ob (O0 4 a c) λx=>oc (R.r FI [(pt i),((.agg [(C8 0 x),(C8 1 x),(C8 2 x),(C8 3 x)]),.val)] s) λq3 s3=>ob (D7 .add c (iI 1)) λz=>GA R i a b z d e f g s3) (some ([(CB g)],s))):=L8 []
def iM:C9.r FI [(.undef,(.ptr i 0)),(a,.val)] s=UW C9 i a s:=BL (s:=HZ) func42
def WA:=eR f43 Ev JF R [] (I4 f43 [(pt i),(a,.val)] s)
def Cq:=hR f43 Ev JF R (pb 58) (ms 67 [(16,a),(17,b),(18,c)] [(0,(.ptr i 0))] [(3,bx d 4),(4,bv [e,f,g]),(5,some [(h,.own),(o,.val),((.list 3 []),.own)])] s)
def GD:=hR f43 Ev JF R (pb 122) (ms 67 [(47,a),(48,b),(49,c)] [(0,(.ptr i 0))] [(4,bv [d,e,f]),(5,some [(g,.own),(h,.val),(o,.own)])] s)
def mr:WA R i a s =
 (og (I5 4 a)<|og (I9 (C8 2 a))<|ob (O6 (C8 1 a)) λx=>Cq R i (C8 1 a) x (iI 0) a (.list 3 []) (.list 1 []) (.list 3 []) (.list 3 []) (C8 2 a) s):=H7 []
def Dt:Cq R i a b c d e f g h o s =
 (ob (D7 .lss c b) λz=>G8 z (ob (O0 1 a c) λx=>og (M8 x)<|oc (R.r U1 [(pt i)] s) λq3 s3=>ob (l8 .not q3) λw=>G8 w (some ([(.agg [h,o,(.list 3 [])])],s3)) (ob (H5 s3 i) λc5=>ob (X8 c5 0) λi6=>ob (R.r Hf [(pt i6),(x,.val)] s3) λq7=>ob (Q0 0 (.J6 q7.1)) λy=>ob (Q0 1 (.J6 q7.1)) λu=>og (I5 3 y)<|oc (R.r S9 [(pt i),(u,.val),((.agg (wH (J_ []))),.val)] q7.2) λq10 s10=>ob (Dh 3 h (.list 3 [(CB y)])) λv=>ob (D7 .add c (iI 1)) λt=>Cq R i a b t d e f g v o s10)) (ob (O6 (C8 3 d)) λq=>GD R i (C8 3 d) q (iI 0) e f g h o (.list 3 []) s)):=L8 []
def QL:GD R i a b c d e f g h o s =
 (ob (D7 .lss c b) λy=>G8 y (ob (O0 4 a c) λx=>oc (R.r U1 [(pt i)] s) λq3 s3=>ob (l8 .not q3) λz=>G8 z (some ([(.agg [g,h,o])],s3)) (oc (R.r GM [(pt i),((.agg [(C8 0 x),(C8 1 x),(C8 2 x),(C8 3 x)]),.val)] s3) λq5 s5=>og (I5 3 q5)<|ob (Dh 3 o (.list 3 [q5])) λw=>ob (D7 .add c (iI 1)) λu=>GD R i a b u d e f g h w s5)) (some ([(.agg [g,h,o])],s))):=L8 []
def kK:C9.r GM [(.undef,(.ptr i 0)),(a,.val)] s=WA C9 i a s:=BL (s:=Ev) func43
def Yq:=eR f44 Oz YF R [] (I4 f44 [(pt i)] s)
def t_:Yq R i s =
 (ob (H5 s i) λc1=>ob (U6 c1 7) λx=>ob (D7 .eql x (iI 0)) λy=>some ([y],s)):=H7 []
def r_:C9.r U1 [(.undef,(.ptr i 0))] s=Yq C9 i s:=BL (s:=Oz) func44
def A0N:=eP f45 yS R [] (I4 f45 [(a,.val)] [])
def A8u:A0N R a =
 (og (I5 3 a)<|oc (R.r ZW [((CB a),.val),(.undef,(F4.map 0)),((.list 1 []),.own)] [E5.map false []]) λq1 s1=>some q1):=H7 []
def A6j:C9.p ZV [a]=A0N C9 a:=CP func45
def UO:=eR f46 Ls Tk R [] (I4 f46 [(.undef,(F4.map i)),(a,.val)] s)
def jW:UO R i a s =
 (og (Z4 false a&&true)<|ob (Q5 s i) λm1=>og (m1.1==false)<|ob (l8 .not (.bool (V7 m1.2 a).isSome)) λx=>G8 x (ob (A1y s (.map i)) λn3=>ob (iw n3) λy=>og (Z4 false a&&true&&true)<|ob (Q5 s i) λm5=>og (m5.1==false)<|some ([],(s.set i (E5.map false (Bb m5.2 a y))))) (some ([],s))):=H7 []
def iF:C9.r Dc [(.undef,(F4.map i)),(a,.val)] s=UO C9 i a s:=BL (s:=Ls) func46
def TW:=eR f47 BO Cr R [] (I4 f47 [(.undef,(F4.map i)),(a,.val)] s)
def Bv:=hR f47 BO Cr R (pb 26) (ms 53 [(13,a),(14,b),(15,c)] [(0,(F4.map i))] [(3,bx d 3)] s)
def Z7:=hR f47 BO Cr R (pb 6758) (ms 53 [(13,a),(14,b),(15,c),(20,d),(21,e),(22,f)] [(0,(F4.map i))] [(3,bx g 3)] s)
def Ap:=hR f47 BO Cr R (pb 58) (ms 53 [(32,a),(33,b),(34,c)] [(0,(F4.map i))] [(3,bx d 3)] s)
def Ey:=hR f47 BO Cr R (pb 62) (ms 53 [(43,a),(44,b),(45,c)] [(0,(F4.map i))] [] s)
def iA:TW R i a s =
 (og (I5 3 a)<|ob (O6 (C8 0 a)) λx=>Bv R i (C8 0 a) x (iI 0) a s):=H7 []
def PU:Bv R i a b c d s =
 (ob (D7 .lss c b) λy=>G8 y (ob (O0 3 a c) λz=>ob (R.p ZV [(CB z)]) λx=>ob (O6 x) λw=>Z7 R i a b c x w (iI 0) d s) (ob (O6 (C8 1 d)) λu=>Ap R i (C8 1 d) u (iI 0) d s)):=L8 []
def PV:Z7 R i a b c d e f g s =
 (ob (D7 .lss f e) λy=>G8 y (ob (O0 1 d f) λx=>og (M8 x)<|oc (R.r Dc [(.undef,(F4.map i)),(x,.val)] s) λq3 s3=>ob (D7 .add f (iI 1)) λz=>Z7 R i a b c d e z g s3) (ob (D7 .add c (iI 1)) λw=>Bv R i a b w g s)):=L8 []
def OP:Ap R i a b c d s =
 (ob (D7 .lss c b) λy=>G8 y (ob (O0 1 a c) λx=>og (M8 x)<|oc (R.r Dc [(.undef,(F4.map i)),(x,.val)] s) λq3 s3=>ob (D7 .add c (iI 1)) λz=>Ap R i a b z d s3) (ob (O6 (C8 2 d)) λw=>Ey R i (C8 2 d) w (iI 0) s)):=L8 []
def OQ:Ey R i a b c s =
 (ob (D7 .lss c b) λx=>G8 x (ob (O0 3 a c) λy=>oc (R.r IB [(.undef,(F4.map i)),((CB y),.val)] s) λq3 s3=>ob (D7 .add c (iI 1)) λz=>Ey R i a b z s3) (some ([],s))):=L8 []
def dQ:C9.r IB [(.undef,(F4.map i)),(a,.val)] s=TW C9 i a s:=BL (s:=BO) func47
def Vv:=eR f48 IZ Ng R [] (I4 f48 [(.undef,(F4.map i)),(a,.val)] s)
def Gu:=hR f48 IZ Ng R (pb 250) (ms 42 [(26,a),(27,b),(28,c)] [(0,(F4.map i))] [(4,bv [d,e,(.list 3 [])]),(5,some [(f,.val),(g,.val),(h,.own)])] s)
def mW:Vv R i a s =
 (og (I5 3 a)<|ob (D7 .eql (C8 0 a) (iI 6)) λx=>G8 x (og (Z4 false (C8 1 a)&&true)<|ob (Q5 s i) λm2=>og (m2.1==false)<|og (I9 ((V7 m2.2 (C8 1 a)).getD (iI 0)))<|some ([(.agg [(C8 0 a),((V7 m2.2 (C8 1 a)).getD (iI 0)),(C8 2 a)])],s)) (ob (O6 (C8 2 a)) λy=>ob (D7 .eql y (iI 0)) λz=>G8 z (some ([(CB a)],s)) (og (I9 (C8 0 a))<|ob (O6 (C8 2 a)) λw=>Gu R i (C8 2 a) w (iI 0) (iI 0) (iI 0) (C8 0 a) (iI 0) (.list 3 []) s))):=H7 []
def Ra:Gu R i a b c d e f g h s =
 (ob (D7 .lss c b) λx=>G8 x (ob (O0 3 a c) λy=>oc (R.r GK [(.undef,(F4.map i)),((CB y),.val)] s) λq3 s3=>og (I5 3 q3)<|ob (Dh 3 h (.list 3 [q3])) λz=>ob (D7 .add c (iI 1)) λw=>Gu R i a b w d e f g z s3) (some ([(.agg [f,g,h])],s))):=L8 []
def kE:C9.r GK [(.undef,(F4.map i)),(a,.val)] s=Vv C9 i a s:=BL (s:=IZ) func48
def Vu:=eR f49 DJ FP R [] (I4 f49 [(.undef,(F4.map i)),(a,.val)] s)
def Cm:=hR f49 DJ FP R (pb 58) (ms 61 [(13,a),(14,b),(15,c)] [(0,(F4.map i))] [(3,bx d 3),(4,bv [e,f,g]),(5,some [(h,.own),((.list 1 []),.own),((.list 3 []),.own)])] s)
def Cn:=hR f49 DJ FP R (pb 122) (ms 61 [(29,a),(30,b),(31,c)] [(0,(F4.map i))] [(3,bx d 3),(4,bv [e,f,g]),(5,some [(h,.own),(o,.own),(p,.own)])] s)
def F_:=hR f49 DJ FP R (pb 250) (ms 61 [(45,a),(46,b),(47,c)] [(0,(F4.map i))] [(4,bv [d,e,f]),(5,some [(g,.own),(h,.own),(o,.own)])] s)
def mV:Vu R i a s =
 (og (I5 3 a)<|ob (O6 (C8 0 a)) λx=>Cm R i (C8 0 a) x (iI 0) a (.list 3 []) (.list 1 []) (.list 3 []) (.list 3 []) s):=H7 []
def RY:Cm R i a b c d e f g h s =
 (ob (D7 .lss c b) λx=>G8 x (ob (O0 3 a c) λy=>oc (R.r GK [(.undef,(F4.map i)),((CB y),.val)] s) λq3 s3=>og (I5 3 q3)<|ob (Dh 3 h (.list 3 [q3])) λz=>ob (D7 .add c (iI 1)) λw=>Cm R i a b w d e f g z s3) (ob (O6 (C8 1 d)) λu=>Cn R i (C8 1 d) u (iI 0) d e f g h (.list 1 []) (.list 3 []) s)):=L8 []
def RZ:Cn R i a b c d e f g h o p s =
 (ob (D7 .lss c b) λy=>G8 y (ob (O0 1 a c) λx=>og (M8 x)<|og (Z4 false x&&true)<|ob (Q5 s i) λm3=>og (m3.1==false)<|og (I9 ((V7 m3.2 x).getD (iI 0)))<|ob (Dh 1 o (.list 1 [((V7 m3.2 x).getD (iI 0))])) λz=>ob (D7 .add c (iI 1)) λw=>Cn R i a b w d e f g h z p s) (ob (O6 (C8 2 d)) λu=>F_ R i (C8 2 d) u (iI 0) e f g h o p s)):=L8 []
def QH:F_ R i a b c d e f g h o s =
 (ob (D7 .lss c b) λx=>G8 x (ob (O0 3 a c) λy=>oc (R.r KA [(.undef,(F4.map i)),((CB y),.val)] s) λq3 s3=>og (I5 3 q3)<|ob (Dh 3 o (.list 3 [q3])) λz=>ob (D7 .add c (iI 1)) λw=>F_ R i a b w d e f g h z s3) (some ([(.agg [g,h,o])],s))):=L8 []
def kD:C9.r KA [(.undef,(F4.map i)),(a,.val)] s=Vu C9 i a s:=BL (s:=DJ) func49
def WB:=eR f50 ND VC R [] (I4 f50 [(pt i)] s)
def m_:WB R i s =
 (ob (H5 s i) λc1=>ob (U6 c1 2) λx=>some ([x],s)):=H7 []
def kL:C9.r Oq [(.undef,(.ptr i 0))] s=WB C9 i s:=BL (s:=ND) func50
def A5p:=eP f64 A3z R [] (I4 f64 [] [])
def B2m:A5p R =
 (ob (R.p ZP [(.str ⟨#[120]⟩)]) λx=>og (I5 16 x)<|some (.agg ((iI 9)::(iI 0)::(iI 0)::(.str ⟨#[120]⟩)::(zz5 ((iI 0)::(Fq (Fq [(.list 7 []),(.list 16 [x])]))))))):=H7 []
def A8e{d:DV}(h:A5p C9=some d):C9.p mD []=some d:=B0k func64 (by kernel_rfl) (by kernel_rfl) (by kernel_rfl) h
def A3e:=eP f65 Zd R [] (I4 f65 [(a,.val)] [])
def gY:=eP f65 Zd R (pb 15) (ms 137 [] [] [(1,bx a 16),(3,bx b 16)] [])
def gZ:=eP f65 Zd R (pb 31) (ms 137 [] [] [(1,bx a 16)] [])
def B0E:A3e R a =
 (og (I5 16 a)<|ob (R.p aL [(X5 a)]) λy=>ob (Q0 0 y) λx=>ob (Q0 1 y) λz=>og (I5 16 x)<|ob (O6 (C8 15 a)) λw=>ob (D7 .neq z w) λu=>M9 u sF (ob (D7 .neq (C8 3 a) (C8 3 x)) λv=>M9 v sF (ob (D7 .neq (C8 4 a) (C8 4 x)) λt=>M9 t sF (ob (D7 .neq (C8 5 a) (C8 5 x)) λs=>M9 s sF (ob (D7 .neq (C8 6 a) (C8 6 x)) λr=>M9 r sF (ob (D7 .neq (C8 7 a) (C8 7 x)) λq=>M9 q sF (ob (O6 (C8 14 a)) λo=>ob (O6 (C8 14 x)) λn=>ob (D7 .neq o n) λm=>G8 m sF (gY R a x)) none) none) none) none) none) none):=H7 [4,6]
def A5V:gY R a b =
 (ob (R.p UG [(.agg [(C8 8 a),(C8 9 a),(C8 10 a)]),(.agg [(C8 8 b),(C8 9 b),(C8 10 b)])]) λx=>ob (l8 .not x) λy=>M9 y sF (ob (R.p UG [(.agg [(C8 11 a),(C8 12 a),(C8 13 a)]),(.agg [(C8 11 b),(C8 12 b),(C8 13 b)])]) λz=>ob (l8 .not z) λw=>G8 w sF (gZ R a)) none):=H7 [4,6]
def A5W:gZ R a =
 (ob (D7 .neq (C8 0 a) (iI 15)) λx=>ob (R.p ZU [(.agg [(C8 8 a),(C8 9 a),(C8 10 a)]),x]) λy=>ob (l8 .not y) λz=>M9 z sF (ob (R.p ZU [(.agg [(C8 11 a),(C8 12 a),(C8 13 a)]),(.bool true)]) λw=>ob (l8 .not w) λu=>G8 u sF (ob (D7 .eql (C8 0 a) (iI 1)) λv=>G8 v (ob (R.p Kq [(C8 3 a)]) λt=>some t) (ob (D7 .eql (C8 0 a) (iI 9)) λs=>G8 s (ob (R.p Kq [(C8 3 a)]) λr=>some r) (ob (D7 .eql (C8 0 a) (iI 11)) λq=>G8 q (ob (R.p Kq [(C8 3 a)]) λo=>some o) (ob (D7 .eql (C8 0 a) (iI 12)) λn=>G8 n (ob (R.p Kq [(C8 3 a)]) λm=>M9 m (ob (R.p Kq [(C8 4 a)]) λl=>some l) sF none) (ob (D7 .eql (C8 0 a) (iI 3)) λk=>G8 k (ob (D7 .eql (C8 5 a) (iI 0)) λj=>M9 j sT (ob (D7 .eql (C8 5 a) (iI 1)) λi=>some i) none) (ob (D7 .eql (C8 0 a) (iI 4)) λh=>G8 h (ob (Ez (C8 6 a)) λg=>ob (D7 .leq g (iI 200)) λf=>
 some f) (ob (D7 .eql (C8 0 a) (iI 14)) λe=>G8 e (ob (O6 (C8 14 a)) λd=>ob (D7 .gtr d (iI 0)) λc=>some c) (ob (D7 .eql (C8 0 a) (iI 16)) λb=>G8 b (ob (D7 .geq (C8 7 a) (iI 1)) λX=>M9 X (ob (D7 .leq (C8 7 a) (iI 7)) λY=>some Y) sF none) sT))))))))) none):=H7 [4,6]
def A8A:C9.p sP [a]=A3e C9 a:=CP func65
def jC:=eP f66 U_ R [] (I4 f66 [(a,.val)] [])
def MI:=hP f66 U_ R (pb 122) (ms 24 [(3,a),(4,b)] [] [] [])
def A05:jC R a =
 (og (I5 7 a)<|ob (R.p dV [(Ta a)]) λx=>ob (l8 .not x) λy=>G8 y sF (ob (R.p gU [(Ta a)]) λz=>MI R z (iI 0))):=H7 []
def YA:MI R a b =
 (ob (O6 a) λy=>ob (D7 .lss b y) λz=>G8 z (ob (OO 1 a none (some b)) λw=>ob (O0 1 a b) λx=>og (M8 x)<|ob (R.p sO [w,x]) λu=>G8 u sF (ob (D7 .add b (iI 1)) λv=>MI R a v)) sT):=L8 []
def zh:C9.p WV [a]=jC C9 a:=CP func66
def A0F:=eP f69 yO R [] (I4 f69 [(a,.val)] [])
def A8m:A0F R a =
 (ob (D7 .eql a (iI 1)) λx=>G8 x (some (iI 0)) (ob (D7 .eql a (iI 2)) λy=>G8 y (some (iI 0)) (ob (D7 .eql a (iI 3)) λz=>G8 z (some (iI 0)) (ob (D7 .eql a (iI 4)) λw=>G8 w (some (iI 0)) (ob (D7 .eql a (iI 5)) λu=>G8 u (some (iI 0)) (ob (D7 .eql a (iI 6)) λv=>G8 v (some (iI 0)) (ob (D7 .eql a (iI 8)) λt=>G8 t (some (iI 1)) (ob (D7 .eql a (iI 7)) λs=>G8 s (some (iI 2)) (ob (D7 .eql a (iI 9)) λr=>G8 r (some (iI 2)) (some (.int .i64 (-1)))))))))))):=H7 []
def A6b:C9.p mF [a]=A0F C9 a:=CP func69
def A0J:=eR f73 Qh XU R [] (I4 f73 [(a,.val),(b,.own)] s)
def UZ:=eR f73 Qh XU R (pb 7) (ms 36 [(1,a)] [(1,.own)] [(2,bx b 3)] s)
def OJ:=hR f73 Qh XU R (pb 58) (ms 36 [(1,a),(5,b)] [(1,.own)] [(2,bx c 3)] s)
def A8q:A0J R a b s =
 (og (I5 3 a)<|ob (D7 .eql (C8 0 a) (iI 6)) λx=>M9 x (ob (R.p zK [b,(C8 1 a)]) λy=>ob (l8 .not y) λz=>G8 z (og (I9 (C8 1 a))<|ob (Dh 1 b (.list 1 [(C8 1 a)])) λw=>UZ R w a s) (UZ R b a s)) (UZ R b a s) none):=H7 [3]
def Yc:UZ R a b s =
 (OJ R a (iI 0) b s):=H7 [3]
def jm:OJ R a b c s =
 (ob (O6 (C8 2 c)) λx=>ob (D7 .lss b x) λy=>G8 y (ob (O0 3 (C8 2 c) b) λz=>oc (R.r ZR [((CB z),.val),(a,.own)] s) λq4 s4=>ob (D7 .add b (iI 1)) λw=>OJ R q4 w c s4) (some ([a],s))):=L8 [3]
def A6f:C9.r ZR [(a,.val),(b,.own)] s=A0J C9 a b s:=BL (s:=Qh) func73
def x_:=eP f74 uV R [] (I4 f74 [(a,.val)] [])
def A5Z:x_ R a =
 (og (I5 3 a)<|ob (R.p XP [(CB a)]) λx=>ob (l8 .not x) λy=>G8 y (some (iI 1)) (some (iI 0))):=H7 []
def A4O:C9.p OZ [a]=x_ C9 a:=CP func74
def sU(R:O8)(x0 x1:DV)(x2:Nat)(sg:List E5):Option (List DV×List E5):=eR f75 RN Yf R [] (I4 f75 [(x0,.val),(x1,.val),(.undef,(F4.map x2))] sg)
def NV(R:O8)(t1:DV)(t2i:Nat)(t38 t39 t40 b9_0 b9_2:DV)(sg:List E5):Option (List DV×List E5):=hR f75 RN Yf R (pb 250) (ms 55 [(1,t1),(38,t38),(39,t39),(40,t40)] [(2,(F4.map t2i))] [(6,some zb1),(9,some [(b9_0,.val),((iI 0),.val),(b9_2,.own)])] sg)
def A4q(R:O8)(x0 x1:DV)(x2:Nat)(sg:List E5):sU R x0 x1 x2 sg =
 (og (I5 3 x0)<|ob (D7 .eql (C8 0 x0) (iI 6)) λy=>G8 y (og (Z4 false (C8 1 x0)&&true)<|ob (Q5 sg x2) λm2=>og (m2.1==false)<|G8 (.bool (V7 m2.2 (C8 1 x0)).isSome) (ob (O0 4 x1 ((V7 m2.2 (C8 1 x0)).getD (iI 0))) λx=>some ([(.agg [(C8 1 x),(C8 2 x),(C8 3 x)])],sg)) (some ([(CB x0)],sg))) (ob (O6 (C8 2 x0)) λz=>ob (D7 .eql z (iI 0)) λw=>G8 w (some ([(CB x0)],sg)) (og (I9 (C8 0 x0))<|ob (O6 (C8 2 x0)) λu=>NV R x1 x2 (C8 2 x0) u (iI 0) (C8 0 x0) (.list 3 []) sg))):=H7 []
def ZA(R:O8)(t1:DV)(t2i:Nat)(t38 t39 t40 b9_0 b9_2:DV)(sg:List E5):NV R t1 t2i t38 t39 t40 b9_0 b9_2 sg =
 (ob (D7 .lss t40 t39) λx=>G8 x (ob (O0 3 t38 t40) λy=>oc (R.r UH [((CB y),.val),(t1,.val),(.undef,(F4.map t2i))] sg) λq3 s3=>og (I5 3 q3)<|ob (Dh 3 b9_2 (.list 3 [q3])) λz=>ob (D7 .add t40 (iI 1)) λw=>NV R t1 t2i t38 t39 w b9_0 z s3) (some ([(.agg [b9_0,(iI 0),b9_2])],sg))):=L8 []
def A2w(x0 x1:DV)(x2:Nat)(sg:List E5):C9.r UH [(x0,.val),(x1,.val),(.undef,(F4.map x2))] sg=sU C9 x0 x1 x2 sg:=BL (s:=RN) func75
end
end
section
set_option maxRecDepth 100000
noncomputable section
open Go.Proofs
open Tryz
variable (R: O8)(i: Nat)(a b c o p q r t u v w x y z a17: DV)(s: List E5)
def xX:=eP f76 Mi R [] (I4 f76 [(a,.val),(b,.val)] [])
def MQ:=hP f76 Mi R (pb 250) (ms 70 [(1,a),(5,b)] [] [(2,bx c 16)] [])
def OI:=eP f76 Mi R (pb 63) (ms 70 [(1,a)] [] [(2,bx b 16)] [])
def MR:=hP f76 Mi R (pb 506) (ms 70 [(1,a),(6,b)] [] [(2,bx c 16)] [])
def MP:=eP f76 Mi R (pb 127) (ms 70 [(1,a)] [] [(2,bx b 16)] [])
def au:xX R a b =
 (og (I5 16 a)<|ob (D7 .add b (iI 1)) λx=>ob (R.p FK [(.agg [(C8 8 a),(C8 9 a),(C8 10 a)]),x]) λy=>ob (R.p FK [(.agg [(C8 11 a),(C8 12 a),(C8 13 a)]),y]) λz=>MQ R z (iI 0) a):=H7 [8,12]
def PW:MQ R a b c =
 (ob (O6 (C8 14 c)) λx=>ob (D7 .lss b x) λy=>M9 y (ob (D7 .leq a (iI 400)) λz=>G8 z (ob (O0 7 (C8 14 c) b) λw=>ob (R.p Qm [(Ta w),a]) λu=>ob (D7 .add b (iI 1)) λv=>MQ R u v c) (OI R a c)) (OI R a c) none):=L8 [8,12]
def jh:OI R a b =
 (MR R a (iI 0) b):=H7 [8,12]
def PX:MR R a b c =
 (ob (O6 (C8 15 c)) λx=>ob (D7 .lss b x) λy=>M9 y (ob (D7 .leq a (iI 400)) λz=>G8 z (ob (O0 16 (C8 15 c) b) λw=>ob (R.p OX [(X5 w),a]) λu=>ob (D7 .add b (iI 1)) λv=>MR R u v c) (MP R a c)) (MP R a c) none):=L8 [8,12]
def eO:MP R a b =
 (ob (Ez (C8 6 b)) λx=>ob (D7 .gtr x (iI 300)) λy=>M9 y (some (iI 401)) (ob (Ez (C8 3 b)) λz=>ob (D7 .gtr z (iI 300)) λw=>M9 w (some (iI 401)) (ob (Ez (C8 4 b)) λu=>ob (D7 .gtr u (iI 300)) λv=>G8 v (some (iI 401)) (some a)) none) none):=H7 [8,12]
def Yd:C9.p OX [a,b]=xX C9 a b:=CP func76
def A0M:=eP f78 EM R [] (I4 f78 [(a,.val)] [])
def Ug:=eP f78 EM R (pb 115) (ms 186 [] [] [(1,bx a 16),(3,bx b 9)] [])
def MV:=eP f78 EM R (pb 463) (ms 186 [] [] [(1,bx a 16),(3,bx b 9)] [])
def MW:=eP f78 EM R (pb 1855) (ms 186 [] [] [(1,bx a 16),(3,bx b 9)] [])
def Fx:=eP f78 EM R (pb 7423) (ms 186 [] [] [(1,bx a 16),(3,bx b 9)] [])
def Sw:=eP f78 EM R (pb 29695) (ms 186 [] [] [(1,bx a 16),(3,bx b 9)] [])
def Kc:=eP f78 EM R (pb 118783) (ms 186 [] [] [(1,bx a 16),(3,bx b 9)] [])
def Ke:=eP f78 EM R (pb 475135) (ms 186 [] [] [(1,bx a 16),(3,bx b 9)] [])
def Sy:=eP f78 EM R (pb 15) (ms 186 [] [] [(1,bx a 16)] [])
def Qr:=hP f78 EM R (pb 122) (ms 186 [(176,a),(177,b),(178,c)] [] [] [])
def A8t:A0M R a =
 (og (I5 16 a)<|ob (R.p WX [(X5 a)]) λy=>ob (Q0 0 y) λx=>ob (Q0 1 y) λz=>og (I5 9 x)<|ob (l8 .not z) λw=>M9 w sF (ob (O6 (C8 15 a)) λu=>ob (D7 .neq u (C8 8 x)) λv=>M9 v sF (ob (D7 .neq (C8 0 a) (iI 14)) λt=>M9 t (ob (O6 (C8 14 a)) λs=>ob (D7 .gtr s (iI 0)) λr=>G8 r sF (Ug R a x)) (Ug R a x) none) none) none):=H7 [4,6,8,10,12,14,16,18]
def A4u:Ug R a b =
 (M9 (C8 0 b) (ob (R.p SG [(C8 3 a)]) λx=>ob (l8 .not x) λy=>M9 y sF (ob (l8 .not (C8 0 b)) λz=>M9 z (ob (D7 .neq (C8 3 a) (.str ⟨#[]⟩)) λw=>G8 w sF (MV R a b)) (MV R a b) none) none) (ob (l8 .not (C8 0 b)) λu=>M9 u (ob (D7 .neq (C8 3 a) (.str ⟨#[]⟩)) λv=>G8 v sF (MV R a b)) (MV R a b) none) none):=H7 [4,6,8,10,12,14,16,18]
def A4v:MV R a b =
 (M9 (C8 1 b) (ob (R.p SG [(C8 4 a)]) λx=>ob (l8 .not x) λy=>M9 y sF (ob (l8 .not (C8 1 b)) λz=>M9 z (ob (D7 .neq (C8 4 a) (.str ⟨#[]⟩)) λw=>G8 w sF (MW R a b)) (MW R a b) none) none) (ob (l8 .not (C8 1 b)) λu=>M9 u (ob (D7 .neq (C8 4 a) (.str ⟨#[]⟩)) λv=>G8 v sF (MW R a b)) (MW R a b) none) none):=H7 [4,6,8,10,12,14,16,18]
def A4w:MW R a b =
 (ob (l8 .not (C8 2 b)) λx=>M9 x (ob (D7 .neq (C8 5 a) (iI 0)) λy=>M9 y sF (ob (D7 .eql (C8 0 a) (iI 3)) λz=>M9 z (ob (D7 .neq (C8 5 a) (iI 0)) λw=>M9 w (ob (D7 .neq (C8 5 a) (iI 1)) λu=>G8 u sF (Fx R a b)) (Fx R a b) none) (Fx R a b) none) none) (ob (D7 .eql (C8 0 a) (iI 3)) λv=>M9 v (ob (D7 .neq (C8 5 a) (iI 0)) λt=>M9 t (ob (D7 .neq (C8 5 a) (iI 1)) λs=>G8 s sF (Fx R a b)) (Fx R a b) none) (Fx R a b) none) none):=H7 [4,6,8,10,12,14,16,18]
def A2n:Fx R a b =
 (ob (l8 .not (C8 3 b)) λx=>M9 x (ob (D7 .neq (C8 6 a) (.str ⟨#[]⟩)) λy=>M9 y sF (ob (Ez (C8 6 a)) λz=>ob (D7 .gtr z (iI 200)) λw=>G8 w sF (Sw R a b)) none) (ob (Ez (C8 6 a)) λu=>ob (D7 .gtr u (iI 200)) λv=>G8 v sF (Sw R a b)) none):=H7 [4,6,8,10,12,14,16,18]
def A2o:Sw R a b =
 (M9 (C8 4 b) (ob (D7 .lss (C8 7 a) (iI 1)) λx=>M9 x sF (ob (D7 .gtr (C8 7 a) (iI 7)) λy=>M9 y sF (ob (l8 .not (C8 4 b)) λz=>M9 z (ob (D7 .neq (C8 7 a) (iI 0)) λw=>G8 w sF (Kc R a b)) (Kc R a b) none) none) none) (ob (l8 .not (C8 4 b)) λu=>M9 u (ob (D7 .neq (C8 7 a) (iI 0)) λv=>G8 v sF (Kc R a b)) (Kc R a b) none) none):=H7 [4,6,8,10,12,14,16,18]
def A2p:Kc R a b =
 (ob (R.p OY [(.agg [(C8 8 a),(C8 9 a),(C8 10 a)])]) λx=>ob (l8 .not x) λy=>M9 y (ob (l8 .not (C8 5 b)) λz=>M9 z sF (ob (R.p Sm [(.agg [(C8 8 a),(C8 9 a),(C8 10 a)])]) λw=>ob (l8 .not w) λu=>M9 u sF (M9 (C8 7 b) (ob (R.p OY [(.agg [(C8 8 a),(C8 9 a),(C8 10 a)])]) λv=>G8 v sF (Ke R a b)) (Ke R a b) none) none) none) (M9 (C8 7 b) (ob (R.p OY [(.agg [(C8 8 a),(C8 9 a),(C8 10 a)])]) λt=>G8 t sF (Ke R a b)) (Ke R a b) none) none):=H7 [4,6,8,10,12,14,16,18]
def A2q:Ke R a b =
 (ob (R.p OY [(.agg [(C8 11 a),(C8 12 a),(C8 13 a)])]) λx=>ob (l8 .not x) λy=>M9 y (ob (l8 .not (C8 6 b)) λz=>M9 z sF (ob (R.p Sm [(.agg [(C8 11 a),(C8 12 a),(C8 13 a)])]) λw=>ob (l8 .not w) λu=>G8 u sF (Sy R a)) none) (Sy R a) none):=H7 [4,6,8,10,12,14,16,18]
def A2r:Sy R a =
 (ob (O6 (C8 14 a)) λx=>Qr R (C8 14 a) x (iI 0)):=H7 [4,6,8,10,12,14,16,18]
def eY:Qr R a b c =
 (ob (D7 .lss c b) λx=>G8 x (ob (O0 7 a c) λy=>ob (R.p PL [(Ta y)]) λz=>ob (D7 .neq z (iI 0)) λw=>G8 w sF (ob (D7 .add c (iI 1)) λu=>Qr R a b u)) sT):=L8 [4,6,8,10,12,14,16,18]
def A6i:C9.p mH [a]=A0M C9 a:=CP func78
def V_(R:O8)(x0:Nat)(x1 x2 x3:DV)(x4:Nat)(sg:List E5):Option (List DV×List E5):=eR f79 Eu JE R [] (I4 f79 [(pt x0),(x1,.val),(x2,.val),(x3,.val),(pt x4)] sg)
def Bi(R:O8)(t0i:Nat)(t2 t3:DV)(t4i:Nat)(t11 b6:DV)(sg:List E5):Option (List DV×List E5):=hR f79 Eu JE R (pb 26) (ms 86 [(2,t2),(3,t3),(11,t11)] [(0,(.ptr t0i 0)),(4,(.ptr t4i 0))] [(6,bx b6 16)] sg)
def Co(R:O8)(t0i:Nat)(t2:DV)(t4i:Nat)(t39 t40 b12:DV)(sg:List E5):Option (List DV×List E5):=hR f79 Eu JE R (pb 26938) (ms 86 [(2,t2),(39,t39),(40,t40)] [(0,(.ptr t0i 0)),(4,(.ptr t4i 0))] [(12,bx b12 3)] sg)
def mo(R:O8)(x0:Nat)(x1 x2 x3:DV)(x4:Nat)(sg:List E5):V_ R x0 x1 x2 x3 x4 sg =
 (og (I5 16 x1)<|ob (O6 x3) λx=>ob (D7 .sub x (iI 1)) λy=>Bi R x0 x2 x3 x4 y x1 sg):=H7 []
def Rb(R:O8)(t0i:Nat)(t2 t3:DV)(t4i:Nat)(t11 b6:DV)(sg:List E5):Bi R t0i t2 t3 t4i t11 b6 sg =
 (ob (D7 .geq t11 (iI 0)) λy=>G8 y (ob (O0 3 t3 t11) λx=>ob (D7 .neq (C8 0 x) (C8 3 b6)) λz=>G8 z (ob (D7 .sub t11 (iI 1)) λw=>Bi R t0i t2 t3 t4i w b6 sg) (ob (O6 (C8 2 x)) λu=>ob (D7 .eql u (iI 0)) λv=>G8 v (some ([(C8 1 x)],sg)) (ob (O6 (C8 2 x)) λt=>Co R t0i t2 t4i t (iI 0) x sg))) (og (I9 (C8 3 b6))<|oc (R.r S9 [(pt t0i),((iI 6),.val),((.agg [(C8 1 b6),(C8 2 b6),(iI 6),(iI 0),(iI 0),(C8 3 b6)]),.val)] sg) λq8 s8=>some ([(iI 0)],s8))):=L8 []
def Rc(R:O8)(t0i:Nat)(t2:DV)(t4i:Nat)(t39 t40 b12:DV)(sg:List E5):Co R t0i t2 t4i t39 t40 b12 sg =
 (ob (D7 .lss t40 t39) λx=>G8 x (ob (H5 sg t4i) λc2=>ob (Qw c2 1 1) λv3=>oc (R.r Z6 [(pt t0i),(t2,.val)] sg) λq4 s4=>Mv (s4[t4i]?=sg[t4i]?)<|og (I9 q4)<|ob (Sb s4 v3.2.1 v3.2.2 1 v3.1 (.list 1 [q4])) λp5=>ob (H5 p5.2 t4i) λc6=>ob (c6[1]?) λu7=>ob (D7 .add t40 (iI 1)) λy=>Co R t0i t2 t4i t39 y b12 (p5.2.set t4i (E5.box (c6.set 1 (p5.1,(.U0 v3.2.1 (v3.2.2+1) 1)))))) (oc (R.r U1 [(pt t0i)] sg) λq9 s9=>ob (l8 .not q9) λz=>G8 z (some ([(iI 0)],s9)) (ob (H5 s9 t0i) λc11=>ob (X8 c11 0) λi12=>ob (H5 s9 t4i) λc13=>ob (U6 c13 1) λw=>ob (R.r Pq [(pt i12),((C8 1 b12),.val),((C8 2 b12),.val),(w,.val)] s9) λq15=>ob (Q0 0 (.J6 q15.1)) λu=>ob (Q0 1 (.J6 q15.1)) λv=>oc (R.r S9 [(pt t0i),(v,.val),((.agg (wH (J_ []))),.val)] q15.2) λq18 s18=>
 some ([u],s18)))):=L8 []
def kJ(x0:Nat)(x1 x2 x3:DV)(x4:Nat)(sg:List E5):C9.r KF [(.undef,(.ptr x0 0)),(x1,.val),(x2,.val),(x3,.val),(.undef,(.ptr x4 0))] sg=V_ C9 x0 x1 x2 x3 x4 sg:=BL (s:=Eu) func79
def Xe(R:O8)(x0:Nat)(x1 x2 x3 x4:DV)(x5:Nat)(sg:List E5):Option (List DV×List E5):=eR f80 Nv WJ R [] (I4 f80 [(pt x0),(x1,.val),(x2,.val),(x3,.val),(x4,.val),(pt x5)] sg)
def rE(R:O8)(x0:Nat)(x1 x2 x3 x4:DV)(x5:Nat)(sg:List E5):Xe R x0 x1 x2 x3 x4 x5 sg =
 (og (I5 16 x1)<|oc (R.r U1 [(pt x0)] sg) λq1 s1=>ob (l8 .not q1) λz=>G8 z (some ([(iI 0)],s1)) (ob (O0 16 (C8 15 x1) x2) λw=>ob (R.r Bt [(pt x0),((X5 w),.val),(x3,.val),(x4,.val)] s1) λq4=>ob (Q0 0 (.J6 q4.1)) λu=>ob (Q0 1 (.J6 q4.1)) λy=>og (I5 4 y)<|ob (H5 q4.2 x5) λc7=>ob (wQ c7 3) λx=>ob (O6 x) λv=>ob (KJ 4 x (.list 4 [(.agg (zz7 []))])) λp10=>ob (l7 0 (p10.1.length+p10.2.length) v) λn11=>ob (Lc ((q4.2.set x5 (E5.box (c7.set 3 (x,.val))))++[E5.opn 4 p10.1 p10.2]) ((q4.2.set x5 (E5.box (c7.set 3 (x,.val))))).length) λq12=>og (q12.1==4&&true)<|ob (aG q12 n11 (.agg [(C8 0 y),(C8 1 y),(C8 2 y),(C8 3 y)])) λx13=>ob (H5 (((q4.2.set x5 (E5.box (c7.set 3 (x,.val))))++[E5.opn 4 p10.1 p10.2]).set ((q4.2.set x5 (E5.box (c7.set 3 (x,.val))))).length (x13)) x5) λc14=>ob (c14[3]?) λu15=>ob (H5 ((((q4.2.set x5 (E5.box (c7.set 3 (x,.val))))++[E5.opn 4 p10.1 p10.2]).set ((q4.2.set x5 (E5.box (c7.set 3 (x,.val))))).length (x13)).set x5 (E5.box (c14.set 3 (.undef,(.arr ((q4.2.set x5 (E5.box (c7.set 3 (x,.val))))).length 4 0 (p10.1.length+p10.2.length)))))) x5) λc16=>
 ob (wP c16 3) λa17=>ob (Lc ((((q4.2.set x5 (E5.box (c7.set 3 (x,.val))))++[E5.opn 4 p10.1 p10.2]).set ((q4.2.set x5 (E5.box (c7.set 3 (x,.val))))).length (x13)).set x5 (E5.box (c14.set 3 (.undef,(.arr ((q4.2.set x5 (E5.box (c7.set 3 (x,.val))))).length 4 0 (p10.1.length+p10.2.length)))))) a17.1) λq18=>ob (TJ q18 a17.2.1 a17.2.2) λt=>some ([u],((((((q4.2.set x5 (E5.box (c7.set 3 (x,.val))))++[E5.opn 4 p10.1 p10.2]).set ((q4.2.set x5 (E5.box (c7.set 3 (x,.val))))).length (x13)).set x5 (E5.box (c14.set 3 (.undef,(.arr ((q4.2.set x5 (E5.box (c7.set 3 (x,.val))))).length 4 0 (p10.1.length+p10.2.length)))))).set x5 (E5.box (c16.set 3 (t,.own)))).set a17.1 (E5.arr 1 []))))):=H7 []
def nN(x0:Nat)(x1 x2 x3 x4:DV)(x5:Nat)(sg:List E5):C9.r O7 [(.undef,(.ptr x0 0)),(x1,.val),(x2,.val),(x3,.val),(x4,.val),(.undef,(.ptr x5 0))] sg=Xe C9 x0 x1 x2 x3 x4 x5 sg:=BL (s:=Nv) func80
def Vz:=eR f81 NC Ux R [] (I4 f81 [(pt i),(a,.val),(b,.val),(c,.val)] s)
def mg:Vz R i a b c s =
 (oc (R.r U1 [(pt i)] s) λq1 s1=>ob (l8 .not q1) λx=>G8 x (some ([(iI 0)],s1)) (ob (H5 s1 i) λc3=>ob (X8 c3 0) λi4=>ob (R.r Eg [(pt i4),(a,.val),(b,.val),(c,.val)] s1) λq5=>ob (Q0 0 (.J6 q5.1)) λy=>ob (Q0 1 (.J6 q5.1)) λz=>oc (R.r S9 [(pt i),(z,.val),((.agg (wH (J_ []))),.val)] q5.2) λq8 s8=>some ([y],s8))):=H7 []
def kI:C9.r BI [(.undef,(.ptr i 0)),(a,.val),(b,.val),(c,.val)] s=Vz C9 i a b c s:=BL (s:=NC) func81
def UU:=eR f82 Lv Tq R [] (I4 f82 [(pt i),(a,.val)] s)
def jc:UU R i a s =
 (oc (R.r U1 [(pt i)] s) λq1 s1=>ob (l8 .not q1) λx=>G8 x (some ([(iI 0)],s1)) (ob (H5 s1 i) λc3=>ob (X8 c3 0) λi4=>ob (R.r Ii [(pt i4),(a,.val)] s1) λq5=>ob (Q0 0 (.J6 q5.1)) λy=>ob (Q0 1 (.J6 q5.1)) λz=>oc (R.r S9 [(pt i),(z,.val),((.agg (wH (J_ []))),.val)] q5.2) λq8 s8=>some ([y],s8))):=H7 []
def iK:C9.r Z6 [(.undef,(.ptr i 0)),(a,.val)] s=UU C9 i a s:=BL (s:=Lv) func82
def Vx(R:O8)(x0:Nat)(x1 x2 x3:DV)(x4:Nat)(sg:List E5):Option (List DV×List E5):=eR f83 NB Uw R [] (I4 f83 [(pt x0),(x1,.val),(x2,.val),(x3,.val),(pt x4)] sg)
def mY(R:O8)(x0:Nat)(x1 x2 x3:DV)(x4:Nat)(sg:List E5):Vx R x0 x1 x2 x3 x4 sg =
 (og (I5 16 x1)<|oc (R.r O7 [(pt x0),((X5 x1),.val),((iI 0),.val),(x2,.val),(x3,.val),(pt x4)] sg) λq1 s1=>oc (R.r O7 [(pt x0),((X5 x1),.val),((iI 1),.val),(x2,.val),(x3,.val),(pt x4)] s1) λq2 s2=>oc (R.r Z6 [(pt x0),(x2,.val)] s2) λq3 s3=>og (I9 q3)<|ob (H5 s3 x4) λc4=>ob (c4[1]?) λu5=>ob (O0 16 (C8 15 x1) (iI 0)) λx=>oc (R.r R9 [(pt x0),(q1,.val),(q3,.val),((X5 x),.val)] (s3.set x4 (E5.box (c4.set 1 ((.list 1 [q3]),.full))))) λq7 s7=>oc (R.r BI [(pt x0),((iI 8),.val),(q3,.val),((iI 0),.val)] s7) λq8 s8=>ob (O0 16 (C8 15 x1) (iI 1)) λy=>oc (R.r R9 [(pt x0),(q2,.val),(q8,.val),((X5 y),.val)] s8) λq10 s10=>some ([q8],s10)):=H7 []
def kG(x0:Nat)(x1 x2 x3:DV)(x4:Nat)(sg:List E5):C9.r KE [(.undef,(.ptr x0 0)),(x1,.val),(x2,.val),(x3,.val),(.undef,(.ptr x4 0))] sg=Vx C9 x0 x1 x2 x3 x4 sg:=BL (s:=NB) func83
def UX(R:O8)(x0:Nat)(x1 x2:DV)(x3:Nat)(sg:List E5):Option (List DV×List E5):=eR f84 Lx Tt R [] (I4 f84 [(pt x0),(x1,.val),(x2,.val),(pt x3)] sg)
def jf(R:O8)(x0:Nat)(x1 x2:DV)(x3:Nat)(sg:List E5):UX R x0 x1 x2 x3 sg =
 (og (I5 3 x1)<|ob (D7 .neq (C8 0 x1) (iI 0)) λx=>G8 x (oc (R.r He [(pt x0),((CB x1),.val)] sg) λq2 s2=>some ([q2],s2)) (oc (R.r Z6 [(pt x0),(x2,.val)] sg) λq3 s3=>ob (H5 s3 x3) λc4=>ob (Qw c4 1 1) λv5=>og (I9 q3)<|ob (Sb s3 v5.2.1 v5.2.2 1 v5.1 (.list 1 [q3])) λp6=>ob (H5 p6.2 x3) λc7=>ob (c7[1]?) λu8=>some ([q3],(p6.2.set x3 (E5.box (c7.set 1 (p6.1,(.U0 v5.2.1 (v5.2.2+1) 1)))))))):=H7 []
def iO(x0:Nat)(x1 x2:DV)(x3:Nat)(sg:List E5):C9.r FJ [(.undef,(.ptr x0 0)),(x1,.val),(x2,.val),(.undef,(.ptr x3 0))] sg=UX C9 x0 x1 x2 x3 sg:=BL (s:=Lx) func84
def sQ:=eR f85 XJ qY R [] (I4 f85 [(a,.val),(b,.val)] s)
def A4n:sQ R a b s =
 (ob (O6 a) λx=>ob (O6 a) λy=>ob (Zz 3 a none x y) λz=>ob (Dh 3 z b) λw=>some ([w],s)):=H7 []
def A2u:C9.r DK [(a,.val),(b,.val)] s=sQ C9 a b s:=BL (s:=XJ) func85
def Xd(R:O8)(x0:Nat)(x1 x2 x3:DV)(x4:Nat)(sg:List E5):Option (List DV×List E5):=eR f86 Nu WI R [] (I4 f86 [(pt x0),(x1,.val),(x2,.val),(x3,.val),(pt x4)] sg)
def rD(R:O8)(x0:Nat)(x1 x2 x3:DV)(x4:Nat)(sg:List E5):Xd R x0 x1 x2 x3 x4 sg =
 (og (I5 16 x1)<|oc (R.r O7 [(pt x0),((X5 x1),.val),((iI 0),.val),(x2,.val),(x3,.val),(pt x4)] sg) λq1 s1=>oc (R.r O7 [(pt x0),((X5 x1),.val),((iI 1),.val),(x2,.val),(x3,.val),(pt x4)] s1) λq2 s2=>oc (R.r U1 [(pt x0)] s2) λq3 s3=>ob (l8 .not q3) λw=>G8 w (some ([(iI 0)],s3)) (ob (H5 s3 x0) λc5=>ob (X8 c5 0) λi6=>oc (R.r Y5 [(pt i6),(q1,.val)] s3) λq7 s7=>ob (D7 .eql q7 (iI 5)) λu=>G8 u (ob (O0 16 (C8 15 x1) (iI 1)) λv=>oc (R.r R9 [(pt x0),(q2,.val),((iI 4),.val),((X5 v),.val)] s7) λq10 s10=>some ([(iI 4)],s10)) (ob (D7 .eql q7 (iI 6)) λt=>G8 t (oc (R.r Z6 [(pt x0),(x2,.val)] s7) λq12 s12=>oc (R.r Z6 [(pt x0),(x2,.val)] s12) λq13 s13=>oc (R.r BI [(pt x0),((iI 9),.val),(q12,.val),(q13,.val)] s13) λq14 s14=>
 ob (O0 16 (C8 15 x1) (iI 0)) λs=>oc (R.r R9 [(pt x0),(q1,.val),(q14,.val),((X5 s),.val)] s14) λq16 s16=>ob (O0 16 (C8 15 x1) (iI 1)) λq=>oc (R.r R9 [(pt x0),(q2,.val),(q12,.val),((X5 q),.val)] s16) λq18 s18=>some ([q13],s18)) (ob (D7 .eql q7 (iI 9)) λp=>G8 p (ob (H5 s7 x0) λc20=>ob (X8 c20 0) λi21=>oc (R.r DL [(pt i21),(q1,.val)] s7) λq22 s22=>ob (O0 1 q22 (iI 0)) λx=>og (M8 x)<|ob (O0 16 (C8 15 x1) (iI 1)) λo=>oc (R.r R9 [(pt x0),(q2,.val),(x,.val),((X5 o),.val)] s22) λq25 s25=>ob (O0 1 q22 (iI 1)) λy=>og (M8 y)<|some ([y],s25)) (ob (O0 16 (C8 15 x1) (iI 0)) λz=>og (I9 q7)<|oc (R.r S9 [(pt x0),((iI 4),.val),((.agg [(C8 1 z),(C8 2 z),(iI 4),q7,(iI 9),(.str ⟨#[]⟩)]),.val)] s7) λq28 s28=>
 some ([(iI 0)],s28)))))):=H7 []
def nM(x0:Nat)(x1 x2 x3:DV)(x4:Nat)(sg:List E5):C9.r Kk [(.undef,(.ptr x0 0)),(x1,.val),(x2,.val),(x3,.val),(.undef,(.ptr x4 0))] sg=Xd C9 x0 x1 x2 x3 x4 sg:=BL (s:=Nu) func86
def Xg(R:O8)(x0:Nat)(x1 x2 x3:DV)(x4:Nat)(sg:List E5):Option (List DV×List E5):=eR f87 JM Ot R [] (I4 f87 [(pt x0),(x1,.val),(x2,.val),(x3,.val),(pt x4)] sg)
def DC(R:O8)(t0i:Nat)(t2 t3:DV)(t4i:Nat)(b6 b11_0 b11_1 b11_2:DV)(sg:List E5):Option (List DV×List E5):=eR f87 JM Ot R (pb 15) (ms 84 [(2,t2),(3,t3)] [(0,(.ptr t0i 0)),(4,(.ptr t4i 0))] [(6,bx b6 16),(11,bv [b11_0,b11_1,b11_2])] sg)
def rF(R:O8)(x0:Nat)(x1 x2 x3:DV)(x4:Nat)(sg:List E5):Xg R x0 x1 x2 x3 x4 sg =
 (og (I5 16 x1)<|og (I9 (C8 3 x1))<|ob (D7 .neq (C8 8 x1) (iI 0)) λx=>G8 x (oc (R.r O7 [(pt x0),((X5 x1),.val),((iI 0),.val),(x2,.val),(x3,.val),(pt x4)] sg) λq2 s2=>oc (R.r He [(pt x0),((.agg [(C8 8 x1),(C8 9 x1),(C8 10 x1)]),.val)] s2) λq3 s3=>og (I9 q3)<|ob (O0 16 (C8 15 x1) (iI 0)) λy=>oc (R.r R9 [(pt x0),(q2,.val),(q3,.val),((X5 y),.val)] s3) λq5 s5=>DC R x0 x2 x3 x4 x1 (C8 3 x1) q3 (.list 1 []) s5) (ob (O0 16 (C8 15 x1) (iI 0)) λz=>ob (R.p aM [(X5 z)]) λw=>G8 w (ob (D7 .add x2 (iI 1)) λu=>oc (R.r O7 [(pt x0),((X5 x1),.val),((iI 0),.val),(u,.val),(x3,.val),(pt x4)] sg) λq9 s9=>og (I9 q9)<|oc (R.r U1 [(pt x0)] s9) λq10 s10=>G8 q10 (oc (R.r Iq [(pt x0),(q9,.val),(x2,.val)] s10) λq11 s11=>
 og (I9 q11)<|ob (H5 s11 x4) λc12=>og (I9 q11)<|ob (c12[2]?) λu13=>DC R x0 x2 x3 x4 x1 (C8 3 x1) q9 q11 (s11.set x4 (E5.box (c12.set 2 (q11,.val))))) (DC R x0 x2 x3 x4 x1 (C8 3 x1) q9 (.list 1 []) s10)) (oc (R.r O7 [(pt x0),((X5 x1),.val),((iI 0),.val),(x2,.val),(x3,.val),(pt x4)] sg) λq14 s14=>og (I9 q14)<|DC R x0 x2 x3 x4 x1 (C8 3 x1) q14 (.list 1 []) s14))):=H7 [12]
def iB(R:O8)(t0i:Nat)(t2 t3:DV)(t4i:Nat)(b6 b11_0 b11_1 b11_2:DV)(sg:List E5):DC R t0i t2 t3 t4i b6 b11_0 b11_1 b11_2 sg =
 (oc (R.r DK [(t3,.val),((.list 3 [(.agg [b11_0,b11_1,b11_2])]),.val)] sg) λq1 s1=>oc (R.r O7 [(pt t0i),((X5 b6),.val),((iI 1),.val),(t2,.val),(q1,.val),(pt t4i)] s1) λq2 s2=>some ([q2],s2)):=H7 [12]
def nO(x0:Nat)(x1 x2 x3:DV)(x4:Nat)(sg:List E5):C9.r Kn [(.undef,(.ptr x0 0)),(x1,.val),(x2,.val),(x3,.val),(.undef,(.ptr x4 0))] sg=Xg C9 x0 x1 x2 x3 x4 sg:=BL (s:=JM) func87
def Xi(R:O8)(x0:Nat)(x1 x2 x3:DV)(x4:Nat)(sg:List E5):Option (List DV×List E5):=eR f88 JN Ou R [] (I4 f88 [(pt x0),(x1,.val),(x2,.val),(x3,.val),(pt x4)] sg)
def JA(R:O8)(t0i:Nat)(t2 t3:DV)(t4i:Nat)(b6 b13_0 b13_1 b13_2:DV)(sg:List E5):Option (List DV×List E5):=eR f88 JN Ou R (pb 255) (ms 80 [(2,t2),(3,t3)] [(0,(.ptr t0i 0)),(4,(.ptr t4i 0))] [(6,bx b6 16),(13,bv [b13_0,b13_1,b13_2])] sg)
def rH(R:O8)(x0:Nat)(x1 x2 x3:DV)(x4:Nat)(sg:List E5):Xi R x0 x1 x2 x3 x4 sg =
 (og (I5 16 x1)<|ob (D7 .add x2 (iI 1)) λx=>oc (R.r FJ [(pt x0),((.agg [(C8 8 x1),(C8 9 x1),(C8 10 x1)]),.val),(x,.val),(pt x4)] sg) λq2 s2=>ob (D7 .add x2 (iI 1)) λy=>oc (R.r FJ [(pt x0),((.agg [(C8 11 x1),(C8 12 x1),(C8 13 x1)]),.val),(y,.val),(pt x4)] s2) λq4 s4=>oc (R.r BI [(pt x0),((iI 9),.val),(q2,.val),(q4,.val)] s4) λq5 s5=>og (I9 (C8 3 x1))<|og (I9 q5)<|ob (D7 .add x2 (iI 1)) λz=>og (I9 (C8 4 x1))<|og (I9 q2)<|oc (R.r DK [(x3,.val),((.list 3 [(.agg [(C8 3 x1),q5,(.list 1 [])]),(.agg [(C8 4 x1),q2,(.list 1 [])])]),.val)] s5) λq7 s7=>oc (R.r O7 [(pt x0),((X5 x1),.val),((iI 0),.val),(z,.val),(q7,.val),(pt x4)] s7) λq8 s8=>ob (O0 16 (C8 15 x1) (iI 0)) λw=>oc (R.r R9 [(pt x0),(q8,.val),(q4,.val),((X5 w),.val)] s8) λq10 s10=>
 oc (R.r U1 [(pt x0)] s10) λq11 s11=>G8 q11 (oc (R.r Iq [(pt x0),(q5,.val),(x2,.val)] s11) λq12 s12=>og (I9 q12)<|ob (H5 s12 x4) λc13=>og (I9 q12)<|ob (c13[2]?) λu14=>JA R x0 x2 x3 x4 x1 (C8 3 x1) q5 q12 (s12.set x4 (E5.box (c13.set 2 (q12,.val))))) (JA R x0 x2 x3 x4 x1 (C8 3 x1) q5 (.list 1 []) s11)):=H7 [9]
def jg(R:O8)(t0i:Nat)(t2 t3:DV)(t4i:Nat)(b6 b13_0 b13_1 b13_2:DV)(sg:List E5):JA R t0i t2 t3 t4i b6 b13_0 b13_1 b13_2 sg =
 (oc (R.r DK [(t3,.val),((.list 3 [(.agg [b13_0,b13_1,b13_2])]),.val)] sg) λq1 s1=>oc (R.r O7 [(pt t0i),((X5 b6),.val),((iI 1),.val),(t2,.val),(q1,.val),(pt t4i)] s1) λq2 s2=>some ([q2],s2)):=H7 [9]
def nQ(x0:Nat)(x1 x2 x3:DV)(x4:Nat)(sg:List E5):C9.r Ko [(.undef,(.ptr x0 0)),(x1,.val),(x2,.val),(x3,.val),(.undef,(.ptr x4 0))] sg=Xi C9 x0 x1 x2 x3 x4 sg:=BL (s:=JN) func88
end
end
section
set_option maxRecDepth 100000
noncomputable section
open Go.Proofs
open Tryz
variable (R: O8)(i j k l m n: Nat)(a b c d e f o p q r t u v w x y z: DV)(s: List E5)
def Vw(R:O8)(x0:Nat)(x1 x2 x3:DV)(x4:Nat)(sg:List E5):Option (List DV×List E5):=eR f89 NA Uv R [] (I4 f89 [(pt x0),(x1,.val),(x2,.val),(x3,.val),(pt x4)] sg)
def mX(R:O8)(x0:Nat)(x1 x2 x3:DV)(x4:Nat)(sg:List E5):Vw R x0 x1 x2 x3 x4 sg =
 (og (I5 16 x1)<|oc (R.r O7 [(pt x0),((X5 x1),.val),((iI 0),.val),(x2,.val),(x3,.val),(pt x4)] sg) λq1 s1=>ob (O0 16 (C8 15 x1) (iI 0)) λx=>oc (R.r R9 [(pt x0),(q1,.val),((iI 1),.val),((X5 x),.val)] s1) λq3 s3=>oc (R.r O7 [(pt x0),((X5 x1),.val),((iI 1),.val),(x2,.val),(x3,.val),(pt x4)] s3) λq4 s4=>oc (R.r O7 [(pt x0),((X5 x1),.val),((iI 2),.val),(x2,.val),(x3,.val),(pt x4)] s4) λq5 s5=>oc (R.r Z6 [(pt x0),(x2,.val)] s5) λq6 s6=>og (I9 q6)<|ob (H5 s6 x4) λc7=>ob (c7[1]?) λu8=>ob (O0 16 (C8 15 x1) (iI 1)) λy=>oc (R.r R9 [(pt x0),(q4,.val),(q6,.val),((X5 y),.val)] (s6.set x4 (E5.box (c7.set 1 ((.list 1 [q6]),.full))))) λq10 s10=>ob (O0 16 (C8 15 x1) (iI 2)) λz=>oc (R.r R9 [(pt x0),(q5,.val),(q6,.val),((X5 z),.val)] s10) λq12 s12=>
 some ([q6],s12)):=H7 []
def kF(x0:Nat)(x1 x2 x3:DV)(x4:Nat)(sg:List E5):C9.r KD [(.undef,(.ptr x0 0)),(x1,.val),(x2,.val),(x3,.val),(.undef,(.ptr x4 0))] sg=Vw C9 x0 x1 x2 x3 x4 sg:=BL (s:=NA) func89
def UV(R:O8)(x0:Nat)(x1 x2 x3:DV)(x4:Nat)(sg:List E5):Option (List DV×List E5):=eR f90 ET IR R [] (I4 f90 [(pt x0),(x1,.val),(x2,.val),(x3,.val),(pt x4)] sg)
def Dq(R:O8)(t0i:Nat)(t2 t3:DV)(t4i:Nat)(t12 t13 t51 t52 t53 b6:DV)(sg:List E5):Option (List DV×List E5):=hR f90 ET IR R (pb 1018) (ms 117 [(2,t2),(3,t3),(12,t12),(13,t13),(51,t51),(52,t52),(53,t53)] [(0,(.ptr t0i 0)),(4,(.ptr t4i 0))] [(6,bx b6 16)] sg)
def Bw(R:O8)(t0i:Nat)(t2 t3:DV)(t4i:Nat)(t12 t13 t14 t17 t20 t51 t52 t53 t80 t81 t82 b6:DV)(sg:List E5):Option (List DV×List E5):=hR f90 ET IR R (pb 8342778) (ms 117 [(2,t2),(3,t3),(12,t12),(13,t13),(14,t14),(17,t17),(20,t20),(51,t51),(52,t52),(53,t53),(80,t80),(81,t81),(82,t82)] [(0,(.ptr t0i 0)),(4,(.ptr t4i 0)),(20,.own)] [(6,bx b6 16)] sg)
def jd(R:O8)(x0:Nat)(x1 x2 x3:DV)(x4:Nat)(sg:List E5):UV R x0 x1 x2 x3 x4 sg =
 (og (I5 16 x1)<|oc (R.r O7 [(pt x0),((X5 x1),.val),((iI 0),.val),(x2,.val),(x3,.val),(pt x4)] sg) λq1 s1=>oc (R.r Z6 [(pt x0),(x2,.val)] s1) λq2 s2=>ob (O0 16 (C8 15 x1) (iI 0)) λx=>oc (R.r R9 [(pt x0),(q1,.val),(q2,.val),((X5 x),.val)] s2) λq4 s4=>oc (R.r Z6 [(pt x0),(x2,.val)] s4) λq5 s5=>og (I9 q2)<|og (I9 q5)<|ob (H5 s5 x4) λc6=>ob (c6[1]?) λu7=>ob (O6 (C8 14 x1)) λy=>Dq R x0 x2 x3 x4 q2 q5 (C8 14 x1) y (iI 0) x1 (s5.set x4 (E5.box (c6.set 1 ((.list 1 [q2,q5]),.full))))):=H7 []
def QJ(R:O8)(t0i:Nat)(t2 t3:DV)(t4i:Nat)(t12 t13 t51 t52 t53 b6:DV)(sg:List E5):Dq R t0i t2 t3 t4i t12 t13 t51 t52 t53 b6 sg =
 (ob (D7 .lss t53 t52) λz=>G8 z (ob (O0 7 t51 t53) λw=>oc (R.r U1 [(pt t0i)] sg) λq3 s3=>ob (l8 .not q3) λu=>G8 u (some ([(iI 0)],s3)) (ob (H5 s3 t0i) λc5=>ob (X8 c5 0) λi6=>ob (R.r gP [(pt i6),((Ta w),.val),(t12,.val),(t2,.val)] s3) λq7=>ob (Q0 0 (.J6 q7.1)) λy=>ob (Q0 1 (.J6 q7.1)) λv=>ob (Q0 2 (.J6 q7.1)) λx=>ob (Q0 3 (.J6 q7.1)) λt=>og (I5 6 x)<|oc (R.r S9 [(pt t0i),(t,.val),((.agg [(C8 0 x),(C8 1 x),(C8 2 x),(C8 3 x),(C8 4 x),(C8 5 x)]),.val)] q7.2) λq12 s12=>oc (R.r DK [(t3,.val),((.list 3 []),.val)] s12) λq13 s13=>ob (O6 y) λs=>Bw R t0i t2 t3 t4i t12 t13 t53 v q13 t51 t52 t53 y s (iI 0) b6 s13)) (some ([t13],sg))):=L8 []
def JC(R:O8)(t0i:Nat)(t2 t3:DV)(t4i:Nat)(t12 t13 t14 t17 t20 t51 t52 t53 t80 t81 t82 b6:DV)(sg:List E5):Bw R t0i t2 t3 t4i t12 t13 t14 t17 t20 t51 t52 t53 t80 t81 t82 b6 sg =
 (ob (D7 .lss t82 t81) λz=>G8 z (ob (O0 1 t80 t82) λx=>og (M8 x)<|ob (O0 1 t17 t82) λy=>og (M8 y)<|og (I9 x)<|og (I9 y)<|ob (Dh 3 t20 (.list 3 [(.agg [x,y,(.list 1 [])])])) λw=>ob (D7 .add t82 (iI 1)) λu=>Bw R t0i t2 t3 t4i t12 t13 t14 t17 w t51 t52 t53 t80 t81 u b6 sg) (ob (D7 .add t14 (iI 1)) λv=>oc (R.r O7 [(pt t0i),((X5 b6),.val),(v,.val),(t2,.val),(t20,.val),(pt t4i)] sg) λq7 s7=>ob (D7 .add t14 (iI 1)) λt=>ob (O0 16 (C8 15 b6) t) λs=>oc (R.r R9 [(pt t0i),(q7,.val),(t13,.val),((X5 s),.val)] s7) λq10 s10=>ob (D7 .add t53 (iI 1)) λq=>Dq R t0i t2 t3 t4i t12 t13 t51 t52 q b6 s10)):=L8 []
def iL(x0:Nat)(x1 x2 x3:DV)(x4:Nat)(sg:List E5):C9.r Ir [(.undef,(.ptr x0 0)),(x1,.val),(x2,.val),(x3,.val),(.undef,(.ptr x4 0))] sg=UV C9 x0 x1 x2 x3 x4 sg:=BL (s:=ET) func90
def Xh:=eR f91 Nw WK R [] (I4 f91 [(pt i),(a,.val)] s)
def rG:Xh R i a s =
 (og (I5 3 a)<|oc (R.r U1 [(pt i)] s) λq1 s1=>ob (l8 .not q1) λx=>G8 x (some ([(iI 0)],s1)) (ob (H5 s1 i) λc3=>ob (X8 c3 0) λi4=>ob (R.r Rq [(pt i4),((CB a),.val)] s1) λq5=>ob (Q0 0 (.J6 q5.1)) λy=>ob (Q0 1 (.J6 q5.1)) λz=>oc (R.r S9 [(pt i),(z,.val),((.agg (wH (J_ []))),.val)] q5.2) λq8 s8=>some ([y],s8))):=H7 []
def nP:C9.r He [(.undef,(.ptr i 0)),(a,.val)] s=Xh C9 i a s:=BL (s:=Nw) func91
def UR:=eR f92 Lt Tn R [] (I4 f92 [(pt i),(a,.val),(b,.val),(c,.val)] s)
def jY:UR R i a b c s =
 (og (I5 16 c)<|oc (R.r U1 [(pt i)] s) λq1 s1=>G8 q1 (ob (H5 s1 i) λc2=>ob (X8 c2 0) λi3=>ob (R.r Sl [(pt i3),(a,.val),(b,.val)] s1) λq4=>ob (Q0 0 (.J6 q4.1)) λy=>ob (Q0 1 (.J6 q4.1)) λz=>ob (Q0 2 (.J6 q4.1)) λx=>og (I9 x)<|og (I9 y)<|og (I9 z)<|oc (R.r S9 [(pt i),(x,.val),((.agg [(C8 1 c),(C8 2 c),x,y,z,(.str ⟨#[]⟩)]),.val)] q4.2) λq8 s8=>some ([],s8)) (some ([],s1))):=H7 []
def iH:C9.r R9 [(.undef,(.ptr i 0)),(a,.val),(b,.val),(c,.val)] s=UR C9 i a b c s:=BL (s:=Lt) func92
def Yr(R:O8)(x0:Nat)(x1 x2 x3:DV)(x4:Nat)(sg:List E5):Option (List DV×List E5):=eR f93 GX LJ R [] (I4 f93 [(pt x0),(x1,.val),(x2,.val),(x3,.val),(pt x4)] sg)
def GU(R:O8)(t0i:Nat)(t2 t3:DV)(t4i:Nat)(t11 t12 b6:DV)(sg:List E5):Option (List DV×List E5):=eR f93 GX LJ R (pb 15) (ms 43 [(2,t2),(3,t3),(11,t11),(12,t12)] [(0,(.ptr t0i 0)),(4,(.ptr t4i 0))] [(6,bx b6 16)] sg)
def I_(R:O8)(t0i:Nat)(t2 t3:DV)(t4i:Nat)(t11 t12 t23 t24 t25 b6:DV)(sg:List E5):Option (List DV×List E5):=hR f93 GX LJ R (pb 122) (ms 43 [(2,t2),(3,t3),(11,t11),(12,t12),(23,t23),(24,t24),(25,t25)] [(0,(.ptr t0i 0)),(4,(.ptr t4i 0))] [(6,bx b6 16)] sg)
def uA(R:O8)(x0:Nat)(x1 x2 x3:DV)(x4:Nat)(sg:List E5):Yr R x0 x1 x2 x3 x4 sg =
 (og (I5 16 x1)<|ob (D7 .eql (C8 7 x1) (iI 5)) λx=>G8 x (GU R x0 x2 x3 x4 (iI 0) (iI 1) x1 sg) (ob (D7 .eql (C8 7 x1) (iI 6)) λy=>G8 y (GU R x0 x2 x3 x4 (iI 0) (iI 1) x1 sg) (ob (D7 .eql (C8 7 x1) (iI 7)) λz=>G8 z (GU R x0 x2 x3 x4 (iI 2) (iI 1) x1 sg) (GU R x0 x2 x3 x4 (iI 0) (iI 0) x1 sg)))):=H7 [8]
def mq(R:O8)(t0i:Nat)(t2 t3:DV)(t4i:Nat)(t11 t12 b6:DV)(sg:List E5):GU R t0i t2 t3 t4i t11 t12 b6 sg =
 (ob (O6 (C8 15 b6)) λx=>I_ R t0i t2 t3 t4i t11 t12 (C8 15 b6) x (iI 0) b6 sg):=H7 [8]
def Tf(R:O8)(t0i:Nat)(t2 t3:DV)(t4i:Nat)(t11 t12 t23 t24 t25 b6:DV)(sg:List E5):I_ R t0i t2 t3 t4i t11 t12 t23 t24 t25 b6 sg =
 (ob (D7 .lss t25 t24) λx=>G8 x (ob (O0 16 t23 t25) λy=>oc (R.r O7 [(pt t0i),((X5 b6),.val),(t25,.val),(t2,.val),(t3,.val),(pt t4i)] sg) λq3 s3=>oc (R.r R9 [(pt t0i),(q3,.val),(t11,.val),((X5 y),.val)] s3) λq4 s4=>ob (D7 .add t25 (iI 1)) λz=>I_ R t0i t2 t3 t4i t11 t12 t23 t24 z b6 s4) (some ([t12],sg))):=L8 [8]
def sD(x0:Nat)(x1 x2 x3:DV)(x4:Nat)(sg:List E5):C9.r ME [(.undef,(.ptr x0 0)),(x1,.val),(x2,.val),(x3,.val),(.undef,(.ptr x4 0))] sg=Yr C9 x0 x1 x2 x3 x4 sg:=BL (s:=GX) func93
def Xn:=eR f94 OB WO R [] (I4 f94 [(pt i),(a,.val)] s)
def rV:Xn R i a s =
 (oc (R.r Y2 [(pt i),(a,.val)] s) λq1 s1=>ob (l8 .not q1) λz=>G8 z (some ([(.agg (Fq [])),(iI 1)],s1)) (ob (H5 s1 i) λc3=>ob (U6 c3 1) λw=>ob (H5 s1 i) λc5=>ob (U6 c5 2) λu=>ob (D7 .sub w u) λx=>og (I9 x)<|oc (R.r Iy [(.undef,(.ptr (((s1++[E5.map false []])++[E5.map false []])).length 0)),(a,.val)] (((s1++[E5.map false []])++[E5.map false []])++[E5.box [(pt i),(x,.val),(.undef,(F4.map s1.length)),(.undef,(F4.map ((s1++[E5.map false []])).length))]])) λq8 s8=>ob (H5 s8 (((s1++[E5.map false []])++[E5.map false []])).length) λc9=>ob (U6 c9 1) λv=>ob (D7 .gtr q8 v) λt=>G8 t (some ([(.agg (Fq [])),(iI 7)],s8)) (ob (H5 s8 i) λc12=>ob (U6 c12 2) λq=>ob (D7 .add q q8) λy=>ob (H5 s8 i) λc15=>og (I9 y)<|ob (c15[2]?) λu16=>oc (R.r GR [(.undef,(.ptr (((s1++[E5.map false []])++[E5.map false []])).length 0)),(a,.val)] (s8.set i (E5.box (c15.set 2 (y,.val))))) λq17 s17=>
 og (I5 3 q17)<|some ([(.agg [(C8 0 q17),(C8 1 q17),(C8 2 q17)]),(iI 0)],s17)))):=H7 []
def nW:C9.r Hf [(.undef,(.ptr i 0)),(a,.val)] s=Xn C9 i a s:=BL (s:=OB) func94
def UT:=eR f95 Lu Tp R [] (I4 f95 [(pt i),(a,.val),(b,.val)] s)
def jZ:UT R i a b s =
 (og (I5 6 b)<|oc (R.r U1 [(pt i)] s) λq1 s1=>M9 q1 (ob (D7 .neq a (iI 0)) λx=>G8 x (ob (H5 s1 i) λc3=>og (I9 a)<|ob (c3[7]?) λu4=>ob (D7 .neq a (iI 7)) λy=>G8 y (ob (H5 (s1.set i (E5.box (c3.set 7 (a,.val)))) i) λc6=>if 1+6<=c6.length then(some ([],((s1.set i (E5.box (c3.set 7 (a,.val)))).set i (E5.box (FC c6 1 [((C8 0 b),.val),((C8 1 b),.val),((C8 2 b),.val),((C8 3 b),.val),((C8 4 b),.val),((C8 5 b),.val)])))))else none) (some ([],(s1.set i (E5.box (c3.set 7 (a,.val))))))) (some ([],s1))) (some ([],s1)) none):=H7 []
def iJ:C9.r S9 [(.undef,(.ptr i 0)),(a,.val),(b,.val)] s=UT C9 i a b s:=BL (s:=Lu) func95
def A0O(R:O8)(x0:DV)(x1:Nat)(x2:DV)(sg:List E5):Option (List DV×List E5):=eR f96 Qj XV R [] (I4 f96 [(x0,.val),(.undef,(F4.map x1)),(x2,.own)] sg)
def Pz:=eR f96 Qj XV R (pb 7) (ms 40 [(2,a)] [(1,(F4.map i)),(2,.own)] [(3,bx b 3)] s)
def Sz:=hR f96 Qj XV R (pb 58) (ms 40 [(2,a),(28,b),(29,c),(30,d)] [(1,(F4.map i)),(2,.own)] [] s)
def iE(R:O8)(x0:DV)(x1:Nat)(x2:DV)(sg:List E5):A0O R x0 x1 x2 sg =
 (og (I5 3 x0)<|ob (D7 .eql (C8 0 x0) (iI 6)) λx=>G8 x (og (Z4 false (C8 1 x0)&&true)<|ob (Q5 sg x1) λm2=>og (m2.1==false)<|ob (D7 .eql ((V7 m2.2 (C8 1 x0)).getD (iI 0)) (iI 0)) λy=>G8 y (og (I9 (C8 1 x0))<|ob (Dh 1 x2 (.list 1 [(C8 1 x0)])) λz=>og (Z4 false (C8 1 x0)&&true)<|ob (Q5 sg x1) λm5=>og (m5.1==false)<|ob (D7 .add ((V7 m5.2 (C8 1 x0)).getD (iI 0)) (iI 1)) λw=>og (Z4 false (C8 1 x0)&&true&&true)<|ob (Q5 sg x1) λm7=>og (m7.1==false)<|Pz R x1 z x0 (sg.set x1 (E5.map false (Bb m7.2 (C8 1 x0) w)))) (og (Z4 false (C8 1 x0)&&true)<|ob (Q5 sg x1) λm8=>og (m8.1==false)<|ob (D7 .add ((V7 m8.2 (C8 1 x0)).getD (iI 0)) (iI 1)) λu=>og (Z4 false (C8 1 x0)&&true&&true)<|ob (Q5 sg x1) λm10=>og (m10.1==false)<|Pz R x1 x2 x0 (sg.set x1 (E5.map false (Bb m10.2 (C8 1 x0) u))))) (Pz R x1 x2 x0 sg)):=H7 [5]
def A4z:Pz R i a b s =
 (ob (O6 (C8 2 b)) λx=>Sz R i a (C8 2 b) x (iI 0) s):=H7 [5]
def kC:Sz R i a b c d s =
 (ob (D7 .lss d c) λx=>G8 x (ob (O0 3 b d) λy=>oc (R.r ZW [((CB y),.val),(.undef,(F4.map i)),(a,.own)] s) λq3 s3=>ob (D7 .add d (iI 1)) λz=>Sz R i q3 b c z s3) (some ([a],s))):=L8 [5]
def bC(x0:DV)(x1:Nat)(x2:DV)(sg:List E5):C9.r ZW [(x0,.val),(.undef,(F4.map x1)),(x2,.own)] sg=A0O C9 x0 x1 x2 sg:=BL (s:=Qj) func96
def A5q:=eP f115 uS R [] (I4 f115 [(a,.val),(b,.val)] [])
def XQ:=hP f115 uS R (pb 26) (ms 18 [(0,a),(1,b),(5,c)] [] [] [])
def B2n:A5q R a b =
 (XQ R a b (iI 0)):=H7 []
def uE:XQ R a b c =
 (ob (O6 a) λy=>ob (D7 .lss c y) λz=>G8 z (ob (O0 1 a c) λx=>og (M8 x)<|ob (D7 .eql x b) λw=>G8 w sT (ob (D7 .add c (iI 1)) λu=>XQ R a b u)) sF):=L8 []
def B0G:C9.p zK [a,b]=A5q C9 a b:=CP func115
def A0H:=eP f116 iV R [] (I4 f116 [(a,.val),(b,.val)] [])
def Sr:=hP f116 iV R (pb 58) (ms 46 [(5,a)] [] [(2,bx b 3),(3,bx c 3)] [])
def A8o:A0H R a b =
 (og (I5 3 a)<|og (I5 3 b)<|ob (D7 .neq (C8 0 a) (C8 0 b)) λx=>M9 x sF (ob (D7 .neq (C8 1 a) (C8 1 b)) λy=>M9 y sF (ob (O6 (C8 2 a)) λz=>ob (O6 (C8 2 b)) λw=>ob (D7 .neq z w) λu=>G8 u sF (Sr R (iI 0) a b)) none) none):=H7 []
def jk:Sr R a b c =
 (ob (O6 (C8 2 b)) λx=>ob (D7 .lss a x) λy=>G8 y (ob (O0 3 (C8 2 b) a) λz=>ob (O0 3 (C8 2 c) a) λw=>ob (R.p UG [(CB z),(CB w)]) λu=>ob (l8 .not u) λv=>G8 v sF (ob (D7 .add a (iI 1)) λt=>Sr R t b c)) sT):=L8 []
def A6d:C9.p UG [a,b]=A0H C9 a b:=CP func116
def sS:=eP f118 Ye R [] (I4 f118 [(a,.val)] [])
def Ub:=eP f118 Ye R (pb 503806) (ms 85 [] [] [(1,bx a 16),(2,bv ((iI 0)::(J_ (dM [])))),(4,bv (b::(J_ (dM []))))] [])
def A4o:sS R a =
 (og (I5 16 a)<|og (I9 (C8 0 a))<|ob (D7 .eql (C8 0 a) (iI 1)) λx=>G8 x (og (I9 (C8 3 a))<|some (.J6 [(.agg ((C8 0 a)::(iI 0)::(iI 0)::(C8 3 a)::(dM []))),(iI 0)])) (ob (D7 .eql (C8 0 a) (iI 2)) λy=>G8 y (og (I9 (C8 5 a))<|some (.J6 [(.agg ((C8 0 a)::(J_ ((.str ⟨#[]⟩)::(C8 5 a)::(.str ⟨#[]⟩)::(iI 0)::(Fq (Fq [(.list 7 []),(.list 16 [])])))))),(iI 0)])) (ob (D7 .eql (C8 0 a) (iI 3)) λz=>G8 z (og (I9 (C8 5 a))<|some (.J6 [(.agg ((C8 0 a)::(J_ ((.str ⟨#[]⟩)::(C8 5 a)::(.str ⟨#[]⟩)::(iI 0)::(Fq (Fq [(.list 7 []),(.list 16 [])])))))),(iI 0)])) (ob (D7 .eql (C8 0 a) (iI 4)) λw=>G8 w (og (I9 (C8 6 a))<|some (.J6 [(.agg ((C8 0 a)::(J_ ((.str ⟨#[]⟩)::(iI 0)::(C8 6 a)::(iI 0)::(Fq (Fq [(.list 7 []),(.list 16 [])])))))),(iI 0)])) (ob (D7 .eql (C8 0 a) (iI 5)) λu=>
 G8 u (some (.J6 [(.agg ((C8 0 a)::(J_ (dM [])))),(iI 0)])) (ob (D7 .eql (C8 0 a) (iI 7)) λv=>G8 v (some (.J6 [(.agg ((C8 0 a)::(J_ (dM [])))),(iI 0)])) (ob (D7 .eql (C8 0 a) (iI 6)) λt=>G8 t (some (.J6 [(.agg ((C8 0 a)::(J_ (dM [])))),(iI 2)])) (ob (D7 .eql (C8 0 a) (iI 8)) λs=>G8 s (some (.J6 [(.agg ((C8 0 a)::(J_ (dM [])))),(iI 2)])) (ob (D7 .eql (C8 0 a) (iI 10)) λr=>
 G8 r (some (.J6 [(.agg ((C8 0 a)::(J_ (dM [])))),(iI 2)])) (ob (D7 .eql (C8 0 a) (iI 9)) λq=>G8 q (Ub R a (C8 0 a)) (ob (D7 .eql (C8 0 a) (iI 11)) λp=>G8 p (Ub R a (C8 0 a)) (ob (D7 .eql (C8 0 a) (iI 12)) λo=>G8 o (og (I9 (C8 3 a))<|og (I9 (C8 4 a))<|some (.J6 [(.agg [(C8 0 a),(iI 0),(iI 0),(C8 3 a),(C8 4 a),(iI 0),(.str ⟨#[]⟩),(iI 0),(C8 8 a),(C8 9 a),(C8 10 a),(C8 11 a),(C8 12 a),(C8 13 a),(.list 7 []),(.list 16 [])]),(iI 2)])) (ob (D7 .eql (C8 0 a) (iI 13)) λn=>G8 n (some (.J6 [(.agg ((C8 0 a)::(J_ (dM [])))),(iI 3)])) (ob (D7 .eql (C8 0 a) (iI 14)) λm=>
 G8 m (ob (O6 (C8 14 a)) λl=>ob (D7 .add (iI 1) l) λk=>og (I9 (C8 14 a))<|some (.J6 [(.agg ((C8 0 a)::(J_ (zz5 ((iI 0)::(Fq (Fq [(C8 14 a),(.list 16 [])]))))))),k])) (ob (D7 .eql (C8 0 a) (iI 15)) λj=>G8 j (some (.J6 [(.agg ((C8 0 a)::(J_ (zz5 ((iI 0)::(C8 8 a)::(C8 9 a)::(C8 10 a)::(Fq [(.list 7 []),(.list 16 [])])))))),(iI 1)])) (ob (D7 .eql (C8 0 a) (iI 16)) λi=>G8 i (og (I9 (C8 7 a))<|some (.J6 [(.agg ((C8 0 a)::(J_ (zz5 ((C8 7 a)::(Fq (Fq [(.list 7 []),(.list 16 [])]))))))),(iI 2)])) (some (.J6 [(.agg ((C8 0 a)::(J_ (dM [])))),(.int .i64 (-1))])))))))))))))))))):=H7 [20]
def az:Ub R a b =
 (og (I9 (C8 3 a))<|ob (D7 .sub (C8 0 a) (iI 9)) λx=>ob (D7 .quo x (iI 2)) λy=>ob (D7 .add (iI 1) y) λz=>some (.J6 [(.agg (b::(iI 0)::(iI 0)::(C8 3 a)::(zz5 ((iI 0)::(C8 8 a)::(C8 9 a)::(C8 10 a)::(Fq [(.list 7 []),(.list 16 [])]))))),z])):=H7 [20]
def A2v:C9.p aL [a]=sS C9 a:=CP func118
def A0L:=eP f119 yR R [] (I4 f119 [(a,.val),(b,.val)] [])
def A8s:A0L R a b =
 (og (I5 3 a)<|ob (R.p mG [(CB a)]) λx=>G8 x (some b) (ob (R.p XN [(CB a)]) λy=>M9 y (ob (R.p Sk [(CB a),(iI 6)]) λz=>some z) sF none)):=H7 []
def A6h:C9.p ZU [a,b]=A0L C9 a b:=CP func119
def A0D:=eP f120 iU R [] (I4 f120 [(a,.val)] [])
def Sq:=hP f120 iU R (pb 58) (ms 32 [(0,a),(3,b)] [] [] [])
def A8k:A0D R a =
 (ob (Ez a) λx=>ob (D7 .lss x (iI 1)) λy=>M9 y sF (ob (Ez a) λz=>ob (D7 .gtr z (iI 32)) λw=>M9 w sF (ob (IM a (iI 0)) λu=>ob (R.p SE [u]) λv=>ob (l8 .not v) λt=>G8 t sF (Sq R a (iI 0))) none) none):=H7 []
def ji:Sq R a b =
 (ob (Ez a) λx=>ob (D7 .lss b x) λy=>G8 y (ob (IM a b) λz=>ob (R.p mE [z]) λw=>ob (l8 .not w) λu=>G8 u sF (ob (D7 .add b (iI 1)) λv=>Sq R a v)) (ob (R.p sN [a]) λt=>ob (l8 .not t) λs=>some s)):=L8 []
def A59:C9.p Kq [a]=A0D C9 a:=CP func120
def A3f:=eP f121 Ze R [] (I4 f121 [(a,.val)] [])
def DN:=eP f121 Ze R (pb 31) (ms 92 [(3,a)] [] [(1,bx b 7),(4,bv [c,(iI 0),(iI 0),d,e,f,(.list 7 [])])] [])
def OL:=hP f121 Ze R (pb 506) (ms 92 [(3,a),(5,b)] [] [(1,bx c 7)] [])
def B0F:A3f R a =
 (og (I5 7 a)<|og (I9 (C8 0 a))<|ob (D7 .eql (C8 0 a) (iI 1)) λx=>G8 x (DN R (iI 0) a (C8 0 a) (.str ⟨#[]⟩) (iI 0) (.str ⟨#[]⟩)) (ob (D7 .eql (C8 0 a) (iI 6)) λy=>G8 y (DN R (iI 0) a (C8 0 a) (.str ⟨#[]⟩) (iI 0) (.str ⟨#[]⟩)) (ob (D7 .eql (C8 0 a) (iI 8)) λz=>G8 z (DN R (iI 0) a (C8 0 a) (.str ⟨#[]⟩) (iI 0) (.str ⟨#[]⟩)) (ob (D7 .eql (C8 0 a) (iI 2)) λw=>G8 w (og (I9 (C8 3 a))<|ob (R.p Kq [(C8 3 a)]) λu=>ob (l8 .not u) λv=>G8 v sF (DN R (iI 0) a (C8 0 a) (C8 3 a) (iI 0) (.str ⟨#[]⟩))) (ob (D7 .eql (C8 0 a) (iI 3)) λt=>G8 t (og (I9 (C8 4 a))<|DN R (iI 0) a (C8 0 a) (.str ⟨#[]⟩) (C8 4 a) (.str ⟨#[]⟩)) (ob (D7 .eql (C8 0 a) (iI 4)) λs=>G8 s (og (I9 (C8 4 a))<|ob (D7 .lss (C8 4 a) (iI 0)) λr=>M9 r sF (ob (D7 .gtr (C8 4 a) (iI 1)) λq=>G8 q sF (DN R (iI 0) a (C8 0 a) (.str ⟨#[]⟩) (C8 4 a) (.str ⟨#[]⟩))) none) (ob (D7 .eql (C8 0 a) (iI 5)) λo=>
 G8 o (og (I9 (C8 5 a))<|ob (Ez (C8 5 a)) λn=>ob (D7 .gtr n (iI 200)) λm=>G8 m sF (DN R (iI 0) a (C8 0 a) (.str ⟨#[]⟩) (iI 0) (C8 5 a))) (ob (D7 .eql (C8 0 a) (iI 7)) λl=>G8 l (DN R (iI 2) a (C8 0 a) (.str ⟨#[]⟩) (iI 0) (.str ⟨#[]⟩)) (ob (D7 .eql (C8 0 a) (iI 9)) λk=>G8 k (DN R (iI 2) a (C8 0 a) (.str ⟨#[]⟩) (iI 0) (.str ⟨#[]⟩)) sF))))))))):=H7 [25]
def A4p:DN R a b c d e f =
 (ob (O6 (C8 6 b)) λx=>ob (D7 .neq x a) λy=>M9 y sF (ob (D7 .neq (C8 3 b) d) λz=>M9 z sF (ob (D7 .neq (C8 4 b) e) λw=>M9 w sF (ob (D7 .neq (C8 5 b) f) λu=>G8 u sF (OL R a (iI 0) b)) none) none) none):=H7 [25]
def jq:OL R a b c =
 (ob (D7 .lss b a) λx=>G8 x (ob (O0 7 (C8 6 c) b) λy=>ob (R.p dV [(Ta y)]) λz=>ob (l8 .not z) λw=>G8 w sF (ob (D7 .add b (iI 1)) λu=>OL R a u c)) sT):=L8 [25]
def A8B:C9.p dV [a]=A3f C9 a:=CP func121
def xq:=eP f122 uT R [] (I4 f122 [(a,.val)] [])
def A5S:xq R a =
 (og (I5 7 a)<|oc (R.r XO [((Ta a),.val),((.list 1 []),.own)] []) λq1 s1=>some q1):=H7 []
def A4J:C9.p gU [a]=xq C9 a:=CP func122
def yB:=eP f125 bN R [] (I4 f125 [(a,.val)] [])
def MX:=hP f125 bN R (pb 250) (ms 43 [(33,a),(34,b),(35,c)] [] [] [])
def A51:yB R a =
 (og (I5 3 a)<|ob (R.p gW [(C8 0 a)]) λx=>ob (D7 .lss x (iI 0)) λy=>M9 y sF (ob (O6 (C8 2 a)) λz=>ob (D7 .neq z x) λw=>G8 w sF (ob (D7 .eql (C8 0 a) (iI 6)) λu=>G8 u (ob (D7 .geq (C8 1 a) (iI 0)) λv=>M9 v (ob (D7 .leq (C8 1 a) (iI 1048576)) λt=>some t) sF none) (ob (D7 .neq (C8 1 a) (iI 0)) λs=>G8 s sF (ob (O6 (C8 2 a)) λr=>MX R (C8 2 a) r (iI 0))))) none):=H7 []
def eZ:MX R a b c =
 (ob (D7 .lss c b) λx=>G8 x (ob (O0 3 a c) λy=>ob (R.p XP [(CB y)]) λz=>ob (l8 .not z) λw=>G8 w sF (ob (D7 .add c (iI 1)) λu=>MX R a b u)) sT):=L8 []
def A4Q:C9.p XP [a]=yB C9 a:=CP func125
def dW:=eP f126 TN R [] (I4 f126 [(a,.val),(b,.val)] [])
def Kv:=hP f126 TN R (pb 26) (ms 26 [(1,a),(5,b)] [] [(2,bx c 3)] [])
def TK:dW R a b =
 (og (I5 3 a)<|Kv R b (iI 0) a):=H7 []
def KL:Kv R a b c =
 (ob (O6 (C8 2 c)) λx=>ob (D7 .lss b x) λy=>M9 y (ob (D7 .leq a (iI 400)) λz=>G8 z (ob (O0 3 (C8 2 c) b) λw=>ob (D7 .add a (iI 1)) λu=>ob (R.p FK [(CB w),u]) λv=>ob (D7 .add b (iI 1)) λt=>Kv R v t c) (some a)) (some a) none):=L8 []
def Rw:C9.p FK [a,b]=dW C9 a b:=CP func126
def jB:=eP f127 Uy R [] (I4 f127 [(a,.val),(b,.val)] [])
def MH:=hP f127 Uy R (pb 58) (ms 36 [(1,a),(5,b)] [] [(2,bx c 7)] [])
def Ul:jB R a b =
 (og (I5 7 a)<|ob (Ez (C8 5 a)) λx=>ob (D7 .gtr x (iI 300)) λy=>M9 y (some (iI 401)) (ob (Ez (C8 3 a)) λz=>ob (D7 .gtr z (iI 300)) λw=>G8 w (some (iI 401)) (MH R b (iI 0) a)) none):=H7 []
def X_:MH R a b c =
 (ob (O6 (C8 6 c)) λx=>ob (D7 .lss b x) λy=>M9 y (ob (D7 .leq a (iI 400)) λz=>G8 z (ob (O0 7 (C8 6 c) b) λw=>ob (D7 .add a (iI 1)) λu=>ob (R.p Qm [(Ta w),u]) λv=>ob (D7 .add b (iI 1)) λt=>MH R v t c) (some a)) (some a) none):=L8 []
def TM:C9.p Qm [a,b]=jB C9 a b:=CP func127
end
end
section
set_option maxRecDepth 100000
noncomputable section
open Go.Proofs
open Tryz
variable (R: O8)(i j k l m n: Nat)(a b c d e f g h o p q r t u v w x y z I P a4 a6 a7 a11 a12: DV)(s: List E5)
def We:=eP f130 fB R [] (I4 f130 [(a,.val)] [])
def A08:We R a =
 (og (I5 16 a)<|ob (D7 .eql (C8 0 a) (iI 1)) λy=>G8 y (some (.J6 [(.agg ((.bool true)::(Pm [(.bool false),(.bool false),(.bool false),(iI 0)]))),(.bool true)])) (ob (D7 .eql (C8 0 a) (iI 2)) λz=>G8 z (some (.J6 [(.agg ((.bool false)::(.bool false)::(.bool true)::(Pm [(.bool false),(iI 0)]))),(.bool true)])) (ob (D7 .eql (C8 0 a) (iI 3)) λw=>G8 w (some (.J6 [(.agg ((.bool false)::(.bool false)::(.bool true)::(Pm [(.bool false),(iI 0)]))),(.bool true)])) (ob (D7 .eql (C8 0 a) (iI 4)) λu=>G8 u (some (.J6 [(.agg ((.bool false)::(.bool false)::(.bool false)::(.bool true)::(Pm [(iI 0)]))),(.bool true)])) (ob (D7 .eql (C8 0 a) (iI 5)) λv=>G8 v (some (.J6 [(.agg (Pm (Pm [(iI 0)]))),(.bool true)])) (ob (D7 .eql (C8 0 a) (iI 7)) λt=>
 G8 t (some (.J6 [(.agg (Pm (Pm [(iI 0)]))),(.bool true)])) (ob (D7 .eql (C8 0 a) (iI 6)) λs=>G8 s (some (.J6 [(.agg (Pm (Pm [(iI 2)]))),(.bool true)])) (ob (D7 .eql (C8 0 a) (iI 8)) λr=>G8 r (some (.J6 [(.agg (Pm (Pm [(iI 2)]))),(.bool true)])) (ob (D7 .eql (C8 0 a) (iI 10)) λq=>G8 q (some (.J6 [(.agg (Pm (Pm [(iI 2)]))),(.bool true)])) (ob (D7 .eql (C8 0 a) (iI 9)) λp=>G8 p (some (.J6 [(.agg ((.bool true)::(Pm [(.bool true),(.bool false),(.bool false),(iI 1)]))),(.bool true)])) (ob (D7 .eql (C8 0 a) (iI 11)) λo=>G8 o (some (.J6 [(.agg ((.bool true)::(Pm [(.bool true),(.bool false),(.bool false),(iI 2)]))),(.bool true)])) (ob (D7 .eql (C8 0 a) (iI 12)) λn=>
 G8 n (some (.J6 [(.agg [(.bool true),(.bool true),(.bool false),(.bool false),(.bool false),(.bool true),(.bool true),(.bool false),(iI 2)]),(.bool true)])) (ob (D7 .eql (C8 0 a) (iI 13)) λm=>G8 m (some (.J6 [(.agg (Pm (Pm [(iI 3)]))),(.bool true)])) (ob (D7 .eql (C8 0 a) (iI 14)) λl=>G8 l (ob (O6 (C8 14 a)) λk=>ob (D7 .add k (iI 1)) λx=>og (I9 x)<|ob (O6 (C8 14 a)) λj=>ob (D7 .gtr j (iI 0)) λi=>some (.J6 [(.agg (Pm (Pm [x]))),i])) (ob (D7 .eql (C8 0 a) (iI 15)) λh=>G8 h (some (.J6 [(.agg (Pm [(.bool false),(.bool true),(.bool false),(.bool true),(iI 1)])),(.bool true)])) (ob (D7 .eql (C8 0 a) (iI 16)) λg=>G8 g (some (.J6 [(.agg (Pm [(.bool true),(.bool false),(.bool false),(.bool false),(iI 2)])),(.bool true)])) (some (.J6 [(.agg (Pm (Pm [(iI 0)]))),(.bool false)])))))))))))))))))):=H7 []
def xJ(x0:DV){d:DV}(h:We C9 x0=some d):C9.p WX [x0]=some d:=B0k func130 (by kernel_rfl) (by kernel_rfl) (by kernel_rfl) h
def yC:=eP f131 bO R [] (I4 f131 [(a,.val)] [])
def Qs:=hP f131 bO R (pb 58) (ms 37 [(0,a),(3,b)] [] [] [])
def A52:yC R a =
 (ob (Ez a) λx=>ob (D7 .lss x (iI 1)) λy=>M9 y sF (ob (Ez a) λz=>ob (D7 .gtr z (iI 32)) λw=>M9 w sF (ob (IM a (iI 0)) λu=>ob (D7 .lss u (.int .u8 97)) λv=>M9 v sF (ob (IM a (iI 0)) λt=>ob (D7 .gtr t (.int .u8 122)) λs=>M9 s sF (ob (R.p mI [a]) λr=>G8 r sF (Qs R a (iI 1))) none) none) none) none):=H7 []
def eu:Qs R a b =
 (ob (Ez a) λx=>ob (D7 .lss b x) λy=>G8 y (ob (IM a b) λz=>ob (R.p aN [z]) λw=>ob (l8 .not w) λu=>G8 u sF (ob (D7 .add b (iI 1)) λv=>Qs R a v)) sT):=L8 []
def A4R:C9.p SG [a]=yC C9 a:=CP func131
def xz:=eP f132 uU R [] (I4 f132 [(a,.val)] [])
def A5Y:xz R a =
 (og (I5 3 a)<|ob (D7 .eql (C8 0 a) (iI 0)) λx=>M9 x (ob (D7 .eql (C8 1 a) (iI 0)) λy=>M9 y (ob (O6 (C8 2 a)) λz=>ob (D7 .eql z (iI 0)) λw=>some w) sF none) sF none):=H7 []
def A4N:C9.p OY [a]=xz C9 a:=CP func132
def qL:=eP f133 kS R [] (I4 f133 [(a,.val)] [])
def A2l:qL R a =
 (og (I5 3 a)<|ob (R.p OZ [(CB a)]) λx=>ob (D7 .eql x (iI 0)) λy=>M9 y (ob (R.p UK [(CB a)]) λz=>some z) sF none):=H7 []
def A1i:C9.p Sm [a]=qL C9 a:=CP func133
def Xw:Code:=f134.body.getD .skip
def dZ:=eP f134 Ga R [] (I4 f134 [(a,.val)] [])
def Xr:=eP f134 Ga R (pb 58) (ms 32 [(0,a),(4,(.J6 [])),(6,b),(8,(.J6 [])),(9,(.J6 [])),(10,(.J6 [])),(11,(.J6 [])),(12,(.J6 [])),(13,(.J6 [])),(14,(.J6 [])),(15,(.J6 [])),(16,(.J6 [])),(17,(.J6 [])),(18,(.J6 [])),(19,(.J6 [])),(20,(.J6 [])),(21,(.J6 [])),(22,(.J6 [])),(23,(.J6 [])),(24,(.J6 [])),(25,(.J6 [])),(26,(.J6 [])),(27,(.J6 [])),(28,(.J6 [])),(29,(.J6 [])),(30,(.J6 [])),(31,(.J6 []))] [(1,(.ptr 0 0)),(2,(.ptr 1 0)),(3,(.ptr 3 0)),(5,(F4.map 2)),(7,(.fn 199 [(4,0)]))] [] s)
def Si:Code:=match (sub [true,true,false,true,false] Xw []).1 with
 |.rangeFunc _ _ a b=>.seq a b
 |c=>c
def Aw(R:O8)(t0 t6:DV)(o:Out)(sg:List E5):Option DV:=oH cfg R Ga (XE cfg.P f134) [true,true,false,true,false] Xw o (Ae ⟨spread .undef 32 0 [(0,t0),(4,(.J6 [])),(6,t6),(8,(.J6 [])),(9,(.J6 [])),(10,(.J6 [])),(11,(.J6 [])),(12,(.J6 [])),(13,(.J6 [])),(14,(.J6 [])),(15,(.J6 [])),(16,(.J6 [])),(17,(.J6 [])),(18,(.J6 [])),(19,(.J6 [])),(20,(.J6 [])),(21,(.J6 [])),(22,(.J6 [])),(23,(.J6 [])),(24,(.J6 [])),(25,(.J6 [])),(26,(.J6 [])),(27,(.J6 [])),(28,(.J6 [])),(29,(.J6 [])),(30,(.J6 [])),(31,(.J6 []))],spread .val 32 0 [(1,(.ptr 0 0)),(2,(.ptr 1 0)),(3,(.ptr 3 0)),(5,(F4.map 2)),(7,(.fn 199 [(4,0)]))],spread none 32 0 [],[]⟩ sg)
def Po(R:O8)(t0 t6:DV)(I:List E5->Option DV)(x:DV)(sg:List E5):Option DV:=Ut cfg R Ga (kr I (Aw R t0 t6)) [] Si (mst 32 [(8,x)] [(2,(.ptr 1 0)),(3,(.ptr 3 0))] [] sg)
def Ei(R:O8)(t0 t6:DV):List DV->List E5->Option DV:=Ml (λx I sg=>Po R t0 t6 I x sg) (Aw R t0 t6 .normal)
def Rt(R:O8)(t0 t6:DV)(I:List E5->Option DV)(b4:DV)(sg:List E5):Option DV:=Ut cfg R Ga (kr I (Aw R t0 t6)) (pb 13) Si (ms 32 [] [(3,(.ptr 3 0))] [(4,bx b4 7)] sg)
def zX:dZ R a =
 (og (I5 7 a)<|Xr R a (Ta a) [E5.box [((C8 0 a),.val),((C8 1 a),.val),((C8 2 a),.val),((C8 3 a),.val),((C8 4 a),.val),((C8 5 a),.val),((C8 6 a),.val)],E5.box [((iI 0),.val)],E5.map true [],E5.box [(.undef,(F4.map 2))],E5.box [((C8 0 a),.val),((C8 1 a),.val),((C8 2 a),.val),((C8 3 a),.val),((C8 4 a),.val),((C8 5 a),.val),((C8 6 a),.val)]]):=H7 [6]
def rZ:Xr R a b s =
 ob (H5 s 4) λcs=>ob (Mc cs) λcd=>ob (TB 7 6 cd) λds=>Ei R a b ds (s.set 4 (.arr 1 [])):=(A9G (t:=7) (f:=199) (i:=4) (q:=8) (it:=TB 7 6) (by kernel_rfl) (by kernel_rfl) (by kernel_rfl) (by kernel_rfl)).trans (by kernel_rfl)
theorem gX(R:O8)(t0 t6:DV)(sg:List E5):Ei R t0 t6 [] sg=Aw R t0 t6 .normal sg:=rfl
theorem dN(R:O8)(t0 t6 x:DV)(ds:List DV)(sg:List E5):Ei R t0 t6 (x::ds) sg=Po R t0 t6 (Ei R t0 t6 ds) x sg:=rfl
def jV(R:O8)(t0 t6:DV)(I:List E5->Option DV)(x:DV)(sg:List E5):Po R t0 t6 I x sg=(og (I5 7 x)<|ob (R.p YZ [(Ta x)]) λy=>ob (l8 .not y) λz=>M9 z (ob (H5 sg 1) λc3=>ob (c3[0]?) λu4=>Aw R t0 t6 .ret (sg.set 1 (E5.box (c3.set 0 ((iI 1),.val))))) (ob (D7 .eql (C8 0 x) (iI 2)) λw=>M9 w (ob (H5 sg 3) λc6=>ob (Bn c6 0) λi7=>og (Z4 true (C8 3 x)&&true)<|ob (Q5 sg i7) λm8=>og (m8.1==true)<|ob (D7 .gtr ((V7 m8.2 (C8 3 x)).getD (iI 0)) (iI 0)) λu=>G8 u (ob (H5 sg 1) λc10=>ob (c10[0]?) λu11=>Aw R t0 t6 .ret (sg.set 1 (E5.box (c10.set 0 ((iI 1),.val))))) (Rt R t0 t6 I x sg)) (Rt R t0 t6 I x sg) none) none):=H7 [6]
def Wp:Aw R a b .normal s =
 (ob (H5 s 1) λc1=>ob (c1[0]?) λu2=>B1r (ob (H5 (s.set 1 (E5.box (c1.set 0 ((iI 0),.val)))) 1) λc=>oneCell (s.set 1 (E5.box (c1.set 0 ((iI 0),.val)))) c)):=wh [6] (by kernel_rfl)
def ZX:Aw R a b .ret s=(B1r (ob (H5 s 1) λc=>oneCell s c)):=wh [6] (by kernel_rfl)
def uJ(R:O8)(t0 t6:DV)(I:List E5->Option DV)(b4:DV)(sg:List E5):Rt R t0 t6 I b4 sg=(ob (D7 .eql (C8 0 b4) (iI 2)) λx=>G8 x (ob (H5 sg 3) λc2=>ob (Bn c2 0) λi3=>og (Z4 true (C8 3 b4)&&true)<|ob (Q5 sg i3) λm4=>og (m4.1==true)<|ob (D7 .add ((V7 m4.2 (C8 3 b4)).getD (iI 0)) (iI 1)) λy=>og (Z4 true (C8 3 b4)&&true&&true)<|ob (Q5 sg i3) λm6=>og (m6.1==true)<|I (sg.set i3 (E5.map true (Bb m6.2 (C8 3 b4) y)))) (I sg)):=H7 [6]
def xQ:C9.p PL [a]=dZ C9 a:=CP func134
def Xj:=eR f135 Ff KM R [] (I4 f135 [(pt i),(a,.val),(b,.val),(c,.val)] s)
def DF(R:O8)(t0i:Nat)(t1 t3:DV)(t10i:Nat)(t36 t37 t38:DV)(sg:List E5):Option (List DV×List E5):=hR f135 Ff KM R (pb 122) (ms 127 [(1,t1),(3,t3),(36,t36),(37,t37),(38,t38)] [(0,(.ptr t0i 0)),(10,(.ptr t10i 0))] [] sg)
def Av(R:O8)(t0i:Nat)(t1:DV)(t10i:Nat)(t16 t90 t91 t92:DV)(sg:List E5):Option (List DV×List E5):=hR f135 Ff KM R (pb 506) (ms 127 [(1,t1),(16,t16),(90,t90),(91,t91),(92,t92)] [(0,(.ptr t0i 0)),(10,(.ptr t10i 0))] [] sg)
def rP:Xj R i a b c s =
 (oc (R.r Y2 [(pt i),(a,.val)] s) λq1 s1=>ob (l8 .not q1) λx=>M9 x (some ([(iI 0),(iI 1)],s1)) (ob (O6 b) λy=>ob (O6 c) λz=>ob (D7 .neq y z) λw=>G8 w (some ([(iI 0),(iI 1)],s1)) (ob (O6 b) λu=>DF R i a c (((((s1++[E5.map false []])++[E5.map false []])++[E5.map false []])).length) b u (iI 0) ((((s1++[E5.map false []])++[E5.map false []])++[E5.map false []])++[E5.box [(pt i),(.undef,(F4.map s1.length)),(.undef,(F4.map ((s1++[E5.map false []])).length)),(.undef,(F4.map (((s1++[E5.map false []])++[E5.map false []])).length))]]))) none):=H7 []
def SN(R:O8)(t0i:Nat)(t1 t3:DV)(t10i:Nat)(t36 t37 t38:DV)(sg:List E5):DF R t0i t1 t3 t10i t36 t37 t38 sg =
 (ob (D7 .lss t38 t37) λw=>G8 w (ob (O0 1 t36 t38) λx=>og (M8 x)<|oc (R.r Q7 [(pt t0i),(x,.val)] sg) λq3 s3=>ob (D7 .lss q3 (iI 0)) λu=>M9 u (some ([(iI 0),(iI 1)],s3)) (ob (O0 1 t3 t38) λy=>og (M8 y)<|oc (R.r Y2 [(pt t0i),(y,.val)] s3) λq6 s6=>ob (l8 .not q6) λv=>M9 v (some ([(iI 0),(iI 1)],s6)) (ob (H5 s6 t0i) λc8=>ob (Ao c8 0 5) λv9=>ob (l7 0 v9.2.2 q3) λn10=>ob (V5 s6 v9.1 v9.2.1) λa11=>ob (a11.2[n10]?) λt=>og (a11.1==5)<|ob (D7 .neq (C8 0 t) (iI 6)) λs=>G8 s (some ([(iI 0),(iI 1)],s6)) (ob (H5 s6 t10i) λc14=>ob (Bn c14 1) λi15=>og (Z4 false q3&&true)<|ob (Q5 s6 i15) λm16=>og (m16.1==false)<|G8 (.bool (V7 m16.2 q3).isSome) (some ([(iI 0),(iI 1)],s6)) (ob (H5 s6 t10i) λc17=>ob (Bn c17 1) λi18=>ob (O0 1 t3 t38) λz=>og (M8 z)<|og (Z4 false q3&&true&&true)<|ob (Q5 s6 i18) λm20=>
 og (m20.1==false)<|ob (D7 .add t38 (iI 1)) λq=>DF R t0i t1 t3 t10i t36 t37 q (s6.set i18 (E5.map false (Bb m20.2 q3 z)))))) none) none) (oc (R.r EG [(pt t0i),(t1,.val)] sg) λq22 s22=>ob (O6 q22) λp=>Av R t0i t1 t10i (iI 0) q22 p (iI 0) s22)):=L8 []
def Re(R:O8)(t0i:Nat)(t1:DV)(t10i:Nat)(t16 t90 t91 t92:DV)(sg:List E5):Av R t0i t1 t10i t16 t90 t91 t92 sg =
 (ob (D7 .lss t92 t91) λy=>G8 y (ob (O0 1 t90 t92) λx=>og (M8 x)<|ob (H5 sg t0i) λc3=>ob (Ao c3 0 5) λv4=>ob (l7 0 v4.2.2 x) λn5=>ob (V5 sg v4.1 v4.2.1) λa6=>ob (a6.2[n5]?) λz=>og (a6.1==5)<|ob (D7 .neq (C8 0 z) (iI 6)) λw=>M9 w (oc (R.r Eh [(pt t10i),(x,.val)] sg) λq9 s9=>G8 q9 (ob (D7 .add t16 (iI 1)) λu=>ob (D7 .add t92 (iI 1)) λv=>Av R t0i t1 t10i u t90 t91 v s9) (ob (D7 .add t92 (iI 1)) λt=>Av R t0i t1 t10i t16 t90 t91 t s9)) (ob (D7 .add t92 (iI 1)) λs=>Av R t0i t1 t10i t16 t90 t91 s sg) none) (ob (H5 sg t0i) λc14=>ob (U6 c14 1) λq=>ob (H5 sg t0i) λc16=>ob (U6 c16 2) λp=>ob (D7 .sub q p) λo=>ob (D7 .gtr t16 o) λn=>G8 n (some ([(iI 0),(iI 7)],sg)) (oc (R.r Iw [(pt t10i),(t1,.val)] sg) λq20 s20=>some ([q20,(iI 0)],s20)))):=L8 []
def nR:C9.r Pq [(.undef,(.ptr i 0)),(a,.val),(b,.val),(c,.val)] s=Xj C9 i a b c s:=BL (s:=Ff) func135
def Xm:=eR f136 Fg KN R [] (I4 f136 [(pt i),(a,.val),(b,.val),(c,.val)] s)
def De:=eR f136 Fg KN R (pb 15) (ms 49 [(1,a),(10,b)] [(0,(.ptr i 0))] [] s)
def DI:=hR f136 Fg KN R (pb 122) (ms 49 [(1,a),(10,b),(24,c),(25,d),(26,e)] [(0,(.ptr i 0))] [] s)
def rU:Xm R i a b c s =
 (og (I9 b)<|og (I9 c)<|ob (D7 .eql a (iI 7)) λx=>G8 x (De R i a (.list 1 [b,c]) s) (ob (D7 .eql a (iI 9)) λy=>G8 y (De R i a (.list 1 [b,c]) s) (ob (D7 .eql a (iI 8)) λz=>G8 z (ob (OO 1 (.list 1 [b,c]) none (some (iI 1))) λw=>De R i a w s) (some ([(iI 0),(iI 1)],s))))):=H7 [8]
def jr:De R i a b s =
 (ob (O6 b) λx=>DI R i a b b x (iI 0) s):=H7 [8]
def SQ:DI R i a b c d e s =
 (ob (D7 .lss e d) λy=>G8 y (ob (O0 1 c e) λx=>og (M8 x)<|oc (R.r Y2 [(pt i),(x,.val)] s) λq3 s3=>ob (l8 .not q3) λz=>G8 z (some ([(iI 0),(iI 1)],s3)) (ob (D7 .add e (iI 1)) λw=>DI R i a b c d w s3)) (ob (H5 s i) λc6=>ob (U6 c6 2) λu=>ob (H5 s i) λc8=>ob (U6 c8 1) λv=>ob (D7 .eql u v) λt=>G8 t (some ([(iI 0),(iI 7)],s)) (og (I9 a)<|og (I9 b)<|oc (R.r BK [(pt i),((.agg [a,(iI 0),(iI 0),b,(iI 0)]),.val)] s) λq11 s11=>some ([q11,(iI 0)],s11)))):=L8 [8]
def nV:C9.r Eg [(.undef,(.ptr i 0)),(a,.val),(b,.val),(c,.val)] s=Xm C9 i a b c s:=BL (s:=Fg) func136
def Yw:=eR f137 PE YI R [] (I4 f137 [(pt i),(a,.val)] s)
def uG:Yw R i a s =
 (ob (D7 .lss a (iI 0)) λx=>G8 x (some ([(iI 0),(iI 1)],s)) (ob (H5 s i) λc2=>ob (U6 c2 2) λy=>ob (H5 s i) λc4=>ob (U6 c4 1) λz=>ob (D7 .eql y z) λw=>G8 w (some ([(iI 0),(iI 7)],s)) (og (I9 a)<|oc (R.r BK [(pt i),((.agg [(iI 6),a,(iI 0),(.list 1 []),(iI 0)]),.val)] s) λq7 s7=>some ([q7,(iI 0)],s7)))):=H7 []
def sI:C9.r Ii [(.undef,(.ptr i 0)),(a,.val)] s=Yw C9 i a s:=BL (s:=PE) func137
def Xl:=eR f138 N_ WM R [] (I4 f138 [(pt i),(a,.val)] s)
def rR:Xl R i a s =
 (oc (R.r Y2 [(pt i),(a,.val)] s) λq1 s1=>ob (l8 .not q1) λx=>G8 x (some ([(iI 0)],s1)) (ob (H5 s1 i) λc3=>ob (Ao c3 0 5) λv4=>oc (R.r Q7 [(pt i),(a,.val)] s1) λq5 s5=>Mv (s5[i]?=s1[i]?)<|ob (l7 0 v4.2.2 q5) λn6=>ob (V5 s5 v4.1 v4.2.1) λa7=>ob (a7.2[n6]?) λy=>og (a7.1==5)<|some ([(C8 0 y)],s5))):=H7 []
def nT:C9.r Y5 [(.undef,(.ptr i 0)),(a,.val)] s=Xl C9 i a s:=BL (s:=N_) func138
def Xk:=eR f139 Nz WL R [] (I4 f139 [(pt i),(a,.val)] s)
def rQ:Xk R i a s =
 (oc (R.r Y2 [(pt i),(a,.val)] s) λq1 s1=>ob (l8 .not q1) λx=>G8 x (some ([(.list 1 [])],s1)) (ob (H5 s1 i) λc3=>ob (Ao c3 0 5) λv4=>oc (R.r Q7 [(pt i),(a,.val)] s1) λq5 s5=>Mv (s5[i]?=s1[i]?)<|ob (l7 0 v4.2.2 q5) λn6=>ob (V5 s5 v4.1 v4.2.1) λa7=>ob (a7.2[n6]?) λy=>og (a7.1==5)<|ob (A47 (C8 3 y)) λp9=>og (true&&p9.1==1&&decide (p9.2.length<=R6))<|ob (B48 [Bj (s5++[E5.arr 1 p9.2]) (.undef,(.arr s5.length 1 0 p9.2.length))]) λds=>some (ds,((s5++[E5.arr 1 p9.2]).set s5.length (E5.arr 1 []))))):=H7 []
def nS:C9.r DL [(.undef,(.ptr i 0)),(a,.val)] s=Xk C9 i a s:=BL (s:=Nz) func139
def sZ:=eP f140 qZ R [] (I4 f140 [(a,.val)] [])
def A4t:sZ R a =
 (og (I5 16 a)<|ob (R.p UJ [(X5 a)]) λx=>ob (D7 .eql x (iI 0)) λy=>M9 y (ob (R.p Ps [(X5 a)]) λz=>some z) sF none):=H7 []
def A2z:C9.p aM [a]=sZ C9 a:=CP func140
def UQ:=eR f141 HY Mg R [] (I4 f141 [(pt i),(a,.val),(b,.val)] s)
def Dp:=hR f141 HY Mg R (pb 58) (ms 35 [(2,a),(7,b),(15,c),(16,d),(17,e)] [(0,(.ptr i 0)),(7,.own)] [] s)
def jX:UQ R i a b s =
 (ob (H5 s i) λc1=>ob (X8 c1 0) λi2=>oc (R.r Kr [(pt i2),(a,.val)] s) λq3 s3=>ob (O6 q3) λx=>Dp R i b (.list 1 []) q3 x (iI 0) s3):=H7 []
def QI:Dp R i a b c d e s =
 (ob (D7 .lss e d) λy=>G8 y (ob (O0 1 c e) λx=>og (M8 x)<|ob (H5 s i) λc3=>ob (X8 c3 0) λi4=>oc (R.r GQ [(pt i4),(x,.val)] s) λq5 s5=>ob (D7 .gtr q5 a) λz=>G8 z (og (I9 x)<|ob (Dh 1 b (.list 1 [x])) λw=>ob (D7 .add e (iI 1)) λu=>Dp R i a w c d u s5) (ob (D7 .add e (iI 1)) λv=>Dp R i a b c d v s5)) (some ([b],s))):=L8 []
def iG:C9.r Iq [(.undef,(.ptr i 0)),(a,.val),(b,.val)] s=UQ C9 i a b s:=BL (s:=HY) func141
def xc:=eR f142 TD bJ R [] (I4 f142 [(pt i),(a,.val),(b,.val),(c,.val)] s)
def Ya:=eR f142 TD bJ R (pb 26) (ms 52 [] [] [(10,some zb0)] s)
def A5N:xc R i a b c s =
 (og (I5 7 a)<|ob (R.p PL [(Ta a)]) λx=>ob (D7 .neq x (iI 0)) λy=>M9 y (Ya R s) (oc (R.r Q7 [(pt i),(b,.val)] s) λq3 s3=>ob (D7 .lss q3 (iI 0)) λz=>M9 z (Ya R s3) (ob (D7 .lss c (iI 0)) λw=>G8 w (Ya R s3) (og (I9 c)<|ob (QR (s3++[E5.box ((pt i)::(c,.val)::((.list 1 []),.full)::((.list 1 []),.full)::(zz4 []))]) s3.length [2,3]) λg6=>oc (R.r IC [(.undef,(.ptr s3.length 0)),((Ta a),.val),(b,.val)] g6) λq7 s7=>ob (D7 .neq q7 (iI 0)) λu=>G8 u (ob (H5 s7 s3.length) λc9=>ob (Vo 4 6 c9) λe10=>og (I5 6 (.agg e10))<|some ([(.list 1 []),(.list 1 []),(.agg [(C8 0 (.agg e10)),(C8 1 (.agg e10)),(C8 2 (.agg e10)),(C8 3 (.agg e10)),(C8 4 (.agg e10)),(C8 5 (.agg e10))]),q7],s7)) (ob (H5 s7 s3.length) λc11=>ob (U6 c11 2) λv=>
 ob (H5 s7 s3.length) λc13=>ob (U6 c13 3) λt=>some ([v,t,(.agg (wH (J_ []))),(iI 0)],s7)))) none) none):=H7 [2]
def A4E:C9.r gP [(.undef,(.ptr i 0)),(a,.val),(b,.val),(c,.val)] s=xc C9 i a b c s:=BL (s:=TD) func142
def Yv:=eR f143 PD YH R [] (I4 f143 [(pt i),(a,.val)] s)
def uF:Yv R i a s =
 (og (I5 3 a)<|ob (R.p OZ [(CB a)]) λx=>ob (D7 .neq x (iI 0)) λy=>M9 y (some ([(iI 0),(iI 1)],s)) (ob (R.p UK [(CB a)]) λz=>ob (l8 .not z) λw=>G8 w (some ([(iI 0),(iI 1)],s)) (ob (H5 s i) λc5=>ob (U6 c5 1) λu=>ob (H5 s i) λc7=>ob (U6 c7 2) λv=>ob (D7 .sub u v) λt=>ob (R.p UI [(CB a),t]) λq=>ob (H5 s i) λc11=>ob (U6 c11 1) λo=>ob (H5 s i) λc13=>ob (U6 c13 2) λn=>ob (D7 .sub o n) λm=>ob (D7 .gtr q m) λl=>G8 l (some ([(iI 0),(iI 7)],s)) (oc (R.r MG [(pt i),((CB a),.val)] s) λq17 s17=>some ([q17,(iI 0)],s17)))) none):=H7 []
def sH:C9.r Rq [(.undef,(.ptr i 0)),(a,.val)] s=Yv C9 i a s:=BL (s:=PD) func143
def qK:=eR f144 Fe Je R [] (I4 f144 [(pt i),(a,.val),(b,.val)] s)
def V6(R:O8)(t0i:Nat)(t6 t7:DV)(t9r0 t9r1 t9r3:Nat)(sg:List E5):Option (List DV×List E5):=hR f144 Fe Je R (pb 220) (ms 151 [(6,t6),(7,t7)] [(0,(.ptr t0i 0)),(9,(.P9 t9r0 t9r1 2 t9r3))] [] sg)
def GY(R:O8)(t0i:Nat)(t6 t7:DV)(t9r0 t9r1 t9r3:Nat)(t11 t12:DV)(sg:List E5):Option (List DV×List E5):=eR f144 Fe Je R (pb 28207) (ms 151 [(6,t6),(7,t7),(11,t11),(12,t12)] [(0,(.ptr t0i 0)),(9,(.P9 t9r0 t9r1 2 t9r3))] [] sg)
def TH:=eR f144 Fe Je R (pb 111) (ms 151 [(6,a),(7,b)] [] [] s)
def MJ(R:O8)(t0i:Nat)(t6 t7:DV)(t9r0 t9r1 t9r3:Nat)(t17 t18 t19:DV)(sg:List E5):Option (List DV×List E5):=hR f144 Fe Je R (pb 225662) (ms 151 [(6,t6),(7,t7),(17,t17),(18,t18),(19,t19)] [(0,(.ptr t0i 0)),(9,(.P9 t9r0 t9r1 2 t9r3))] [] sg)
def A2k:qK R i a b s =
 (oc (R.r Q7 [(pt i),(a,.val)] s) λq1 s1=>ob (D7 .lss q1 (iI 0)) λx=>M9 x (some ([(iI 0),(iI 0),(iI 1)],s1)) (oc (R.r Q7 [(pt i),(b,.val)] s1) λq3 s3=>ob (D7 .lss q3 (iI 0)) λy=>G8 y (some ([(iI 0),(iI 0),(iI 1)],s3)) (og (I9 a)<|og (I9 b)<|V6 R i (iI 0) (iI 0) (s3.length) 1 1 (s3++[E5.P9 1 2 [(.agg [a,b])]]))) none):=H7 [27,32]
def ZC(R:O8)(t0i:Nat)(t6 t7:DV)(t9r0 t9r1 t9r3:Nat)(sg:List E5):V6 R t0i t6 t7 t9r0 t9r1 t9r3 sg =
 (ob (iw t9r3) λv=>ob (D7 .gtr v (iI 0)) λt=>G8 t (ob (iw t9r3) λs=>ob (D7 .sub s (iI 1)) λq=>ob (l7 0 t9r3 q) λn5=>ob (V5 sg t9r0 t9r1) λa6=>ob (a6.2[n5]?) λx=>og (a6.1==2)<|ob (iw t9r3) λp=>ob (D7 .sub p (iI 1)) λo=>ob (bnd t9r3 (some o)) λn10=>if n10<=t9r3 then(oc (R.r Q7 [(pt t0i),((C8 0 x),.val)] sg) λq11 s11=>oc (R.r Q7 [(pt t0i),((C8 1 x),.val)] s11) λq12 s12=>ob (D7 .eql q11 q12) λn=>G8 n (V6 R t0i t6 t7 t9r0 t9r1 n10 s12) (ob (D7 .eql q11 (iI 4)) λm=>G8 m (oc (R.r KG [(pt t0i),(q12,.val),((iI 0),.val)] s12) λq15 s15=>V6 R t0i t6 t7 t9r0 t9r1 n10 s15) (ob (D7 .eql q12 (iI 4)) λl=>G8 l (oc (R.r KG [(pt t0i),(q11,.val),((iI 0),.val)] s12) λq17 s17=>V6 R t0i t6 t7 t9r0 t9r1 n10 s17) (oc (R.r Y5 [(pt t0i),(q11,.val)] s12) λq18 s18=>
 ob (D7 .eql q18 (iI 6)) λk=>G8 k (ob (R.r Qn [(pt t0i),(q11,.val),(q12,.val)] s18) λq20=>ob (Q0 0 (.J6 q20.1)) λy=>ob (Q0 1 (.J6 q20.1)) λz=>ob (D7 .neq z (iI 0)) λj=>G8 j (some ([(iI 0),(iI 0),z],q20.2)) (ob (D7 .lss y (iI 0)) λi=>G8 i (V6 R t0i t6 t7 t9r0 t9r1 n10 q20.2) (GY R t0i t6 t7 t9r0 t9r1 n10 y q12 q20.2))) (oc (R.r Y5 [(pt t0i),(q12,.val)] s18) λq25 s25=>ob (D7 .eql q25 (iI 6)) λh=>G8 h (ob (R.r Qn [(pt t0i),(q12,.val),(q11,.val)] s25) λq27=>ob (Q0 0 (.J6 q27.1)) λw=>ob (Q0 1 (.J6 q27.1)) λu=>ob (D7 .neq u (iI 0)) λg=>G8 g (some ([(iI 0),(iI 0),u],q27.2)) (ob (D7 .lss w (iI 0)) λf=>G8 f (V6 R t0i t6 t7 t9r0 t9r1 n10 q27.2) (GY R t0i t6 t7 t9r0 t9r1 n10 q11 w q27.2))) (oc (R.r Y5 [(pt t0i),(q11,.val)] s25) λq32 s32=>
 oc (R.r Y5 [(pt t0i),(q12,.val)] s32) λq33 s33=>ob (D7 .neq q32 q33) λe=>G8 e (oc (R.r Y5 [(pt t0i),(q11,.val)] s33) λq35 s35=>oc (R.r Y5 [(pt t0i),(q12,.val)] s35) λq36 s36=>TH R q35 q36 s36) (GY R t0i t6 t7 t9r0 t9r1 n10 q11 q12 s33)))))))else none) (TH R t6 t7 sg)):=L8 [27,32]
def xL(R:O8)(t0i:Nat)(t6 t7:DV)(t9r0 t9r1 t9r3:Nat)(t11 t12:DV)(sg:List E5):GY R t0i t6 t7 t9r0 t9r1 t9r3 t11 t12 sg =
 (oc (R.r DL [(pt t0i),(t11,.val)] sg) λq1 s1=>oc (R.r DL [(pt t0i),(t12,.val)] s1) λq2 s2=>ob (O6 q1) λx=>ob (D7 .sub x (iI 1)) λy=>MJ R t0i t6 t7 t9r0 t9r1 t9r3 q1 q2 y s2):=H7 [27,32]
def ZB:TH R a b s =
 (ob (D7 .gtr a (iI 0)) λx=>G8 x (some ([a,b,(iI 4)],s)) (some ((wH []),s))):=H7 [27,32]
def YD(R:O8)(t0i:Nat)(t6 t7:DV)(t9r0 t9r1 t9r3:Nat)(t17 t18 t19:DV)(sg:List E5):MJ R t0i t6 t7 t9r0 t9r1 t9r3 t17 t18 t19 sg =
 (ob (D7 .geq t19 (iI 0)) λz=>G8 z (ob (O0 1 t17 t19) λx=>og (M8 x)<|ob (O0 1 t18 t19) λy=>og (M8 y)<|og (I9 x)<|og (I9 y)<|ob (V5 sg t9r0 t9r1) λa4=>og (a4.1==2&&true&&decide (t9r3<=a4.2.length))<|ob (KJ 2 (.list 2 (a4.2.take t9r3)) (.list 2 [(.agg [x,y])])) λp5=>ob (D7 .sub t19 (iI 1)) λw=>MJ R t0i t6 t7 t9r0 ((t9r1+1)) ((p5.1.length+p5.2.length)) t17 t18 w (sg.set t9r0 (E5.P9 (t9r1+1) 2 (p5.1++p5.2)))) (V6 R t0i t6 t7 t9r0 t9r1 t9r3 sg)):=L8 [27,32]
def A1h:C9.r Sl [(.undef,(.ptr i 0)),(a,.val),(b,.val)] s=qK C9 i a b s:=BL (s:=Fe) func144
def aP:=eR f145 Qi ZF R [] (I4 f145 [(pt i),(a,.val)] s)
def xM:aP R i a s =
 (ob (D7 .geq a (iI 0)) λx=>M9 x (ob (H5 s i) λc2=>ob (Ao c2 0 5) λv3=>ob (iw v3.2.2) λy=>ob (D7 .lss a y) λz=>some ([z],s)) (some ([(.bool false)],s)) none):=H7 []
def uO:C9.r Y2 [(.undef,(.ptr i 0)),(a,.val)] s=aP C9 i a s:=BL (s:=Qi) func145
def Uf:=eR f146 Hd Mk R [] (I4 f146 [(pt i),(a,.val)] s)
def GH:=hR f146 Hd Mk R (pb 250) (ms 62 [(1,a),(7,b),(37,c),(38,d),(39,e)] [(0,(.ptr i 0))] [] s)
def j_:Uf R i a s =
 (ob (H5 s i) λc1=>ob (X8 c1 0) λi2=>oc (R.r Q7 [(pt i2),(a,.val)] s) λq3 s3=>ob (H5 s3 i) λc4=>ob (Bn c4 2) λi5=>og (Z4 false q3&&true)<|ob (Q5 s3 i5) λm6=>og (m6.1==false)<|G8 (.bool (V7 m6.2 q3).isSome) (some ([((V7 m6.2 q3).getD (iI 0))],s3)) (ob (H5 s3 i) λc7=>ob (X8 c7 0) λi8=>ob (H5 s3 i8) λc9=>ob (Ao c9 0 5) λv10=>ob (l7 0 v10.2.2 q3) λn11=>ob (V5 s3 v10.1 v10.2.1) λa12=>ob (a12.2[n11]?) λx=>og (a12.1==5)<|ob (O6 (C8 3 x)) λy=>GH R i q3 (iI 1) (C8 3 x) y (iI 0) s3)):=H7 []
def QM:GH R i a b c d e s =
 (ob (D7 .lss e d) λy=>G8 y (ob (O0 1 c e) λx=>og (M8 x)<|oc (R.r Iy [(pt i),(x,.val)] s) λq3 s3=>ob (D7 .add b q3) λz=>ob (H5 s3 i) λc5=>ob (U6 c5 1) λw=>Mv (s3[i]?=s[i]?)<|ob (D7 .add w (iI 1)) λu=>ob (ae z u) λv=>ob (D7 .add e (iI 1)) λt=>GH R i a v c d t s3) (ob (H5 s i) λc10=>ob (Bn c10 2) λi11=>og (Z4 false a&&true&&true)<|ob (Q5 s i11) λm12=>og (m12.1==false)<|some ([b],(s.set i11 (E5.map false (Bb m12.2 a b)))))):=L8 []
def iT:C9.r Iy [(.undef,(.ptr i 0)),(a,.val)] s=Uf C9 i a s:=BL (s:=Hd) func146
end
end
section
set_option maxRecDepth 100000
noncomputable section
open Go.Proofs
open Tryz
variable (R: O8)(i j k l m n: Nat)(a b c d e f g h o p q r t u v w x y z U W X Y Z a3 a4 a6 a7 a10 a12 a13 a17: DV)(s: List E5)
def WH:=eR f147 Ew JG R [] (I4 f147 [(pt i),(a,.val)] s)
def IG:=eR f147 Ew JG R (pb 63) (ms 76 [(1,a)] [(0,(.ptr i 0))] [(4,some zb1),(7,some [(b,.val),(c,.val),((.list 3 []),.own)])] s)
def EK:=hR f147 Ew JG R (pb 506) (ms 76 [(1,a),(54,b),(55,c),(56,d)] [(0,(.ptr i 0))] [(4,some zb1),(7,some [(e,.val),(f,.val),(g,.own)])] s)
def nG:WH R i a s =
 (ob (H5 s i) λc1=>ob (X8 c1 0) λi2=>oc (R.r Q7 [(pt i2),(a,.val)] s) λq3 s3=>ob (H5 s3 i) λc4=>ob (Bn c4 3) λi5=>og (Z4 false q3&&true)<|ob (Q5 s3 i5) λm6=>og (m6.1==false)<|og (I5 3 ((V7 m6.2 q3).getD (.agg (Fq []))))<|G8 (.bool (V7 m6.2 q3).isSome) (some ([(.agg [(C8 0 ((V7 m6.2 q3).getD (.agg (Fq [])))),(C8 1 ((V7 m6.2 q3).getD (.agg (Fq [])))),(C8 2 ((V7 m6.2 q3).getD (.agg (Fq []))))])],s3)) (ob (H5 s3 i) λc7=>ob (X8 c7 0) λi8=>ob (H5 s3 i8) λc9=>ob (Ao c9 0 5) λv10=>ob (l7 0 v10.2.2 q3) λn11=>ob (V5 s3 v10.1 v10.2.1) λa12=>ob (a12.2[n11]?) λx=>og (a12.1==5)<|og (I9 (C8 0 x))<|ob (D7 .eql (C8 0 x) (iI 6)) λy=>G8 y (og (I9 q3)<|IG R i q3 (C8 0 x) q3 s3) (IG R i q3 (C8 0 x) (iI 0) s3))):=H7 [8]
def iD:IG R i a b c s =
 (ob (H5 s i) λc1=>ob (X8 c1 0) λi2=>ob (H5 s i2) λc3=>ob (Ao c3 0 5) λv4=>ob (l7 0 v4.2.2 a) λn5=>ob (V5 s v4.1 v4.2.1) λa6=>ob (a6.2[n5]?) λx=>og (a6.1==5)<|ob (O6 (C8 3 x)) λy=>EK R i a (C8 3 x) y (iI 0) b c (.list 3 []) s):=H7 [8]
def Rh:EK R i a b c d e f g s =
 (ob (D7 .lss d c) λy=>G8 y (ob (O0 1 b d) λx=>og (M8 x)<|oc (R.r GR [(pt i),(x,.val)] s) λq3 s3=>og (I5 3 q3)<|ob (Dh 3 g (.list 3 [q3])) λz=>ob (D7 .add d (iI 1)) λw=>EK R i a b c w e f z s3) (ob (H5 s i) λc6=>ob (Bn c6 3) λi7=>og (Z4 false a&&true&&true)<|ob (Q5 s i7) λm8=>og (m8.1==false)<|some ([(.agg [e,f,g])],(s.set i7 (E5.map false (Bb m8.2 a (.agg [e,f,g]))))))):=L8 [8]
def kR:C9.r GR [(.undef,(.ptr i 0)),(a,.val)] s=WH C9 i a s:=BL (s:=Ew) func147
def A0G:=eP f155 yP R [] (I4 f155 [(a,.val)] [])
def A8n:A0G R a =
 (og (I5 3 a)<|ob (D7 .eql (C8 0 a) (iI 0)) λx=>M9 x (ob (D7 .eql (C8 1 a) (iI 0)) λy=>M9 y (ob (O6 (C8 2 a)) λz=>ob (D7 .eql z (iI 0)) λw=>some w) sF none) sF none):=H7 []
def A6c:C9.p mG [a]=A0G C9 a:=CP func155
def xk:=eP f161 uR R [] (I4 f161 [(a,.val)] [])
def A5Q:xk R a =
 (ob (D7 .geq a (.int .u8 97)) λx=>M9 x (ob (D7 .leq a (.int .u8 122)) λy=>some y) sF none):=H7 []
def A4H:C9.p SE [a]=xk C9 a:=CP func161
def A0E:=eP f162 yN R [] (I4 f162 [(a,.val)] [])
def A8l:A0E R a =
 (ob (R.p SE [a]) λx=>M9 x sT (ob (R.p gT [a]) λy=>M9 y sT (ob (D7 .geq a (.int .u8 65)) λz=>M9 z (ob (D7 .leq a (.int .u8 90)) λw=>M9 w sT (ob (D7 .eql a (.int .u8 95)) λu=>M9 u sT (ob (D7 .eql a (.int .u8 39)) λv=>some v) none) none) (ob (D7 .eql a (.int .u8 95)) λt=>M9 t sT (ob (D7 .eql a (.int .u8 39)) λs=>some s) none) none) none) none):=H7 []
def A6a:C9.p mE [a]=A0E C9 a:=CP func162
def A3b:=eP f163 Zc R [] (I4 f163 [(a,.val)] [])
def UY:=hP f163 Zc R (pb 26) (ms 40 [(0,a),(3,b)] [] [] [])
def Py:=hP f163 Zc R (pb 122) (ms 40 [(0,a),(4,b),(5,c)] [] [] [])
def B0B:A3b R a =
 (UY R a (iI 0)):=H7 []
def qU:UY R a b =
 (ob (Ez a) λx=>ob (D7 .lss b x) λy=>G8 y (ob (IM a b) λz=>ob (R.p SE [z]) λw=>ob (l8 .not w) λu=>G8 u sF (ob (D7 .add b (iI 1)) λv=>UY R a v)) (ob (D7 .add (.str ⟨#[32]⟩) a) λt=>ob (D7 .add t (.str ⟨#[32]⟩)) λs=>Py R a s (iI 0))):=L8 []
def qV:Py R a b c =
 (ob (Ez b) λx=>ob (D7 .add c x) λy=>ob (D7 .leq y (iI 81)) λz=>G8 z (ob (Ez a) λw=>ob (D7 .gtr w (iI 0)) λu=>M9 u (ob (Ez b) λv=>ob (D7 .add c v) λt=>ob (jS (.str ⟨#[32,108,101,116,32,114,101,99,32,105,110,32,102,117,110,32,105,102,32,116,104,101,110,32,101,108,115,101,32,109,97,116,99,104,32,119,105,116,104,32,101,110,100,32,116,114,117,101,32,102,97,108,115,101,32,105,110,116,32,98,111,111,108,32,115,116,114,105,110,103,32,117,110,105,116,32,108,105,115,116,32]⟩) (some c) (some t)) λs=>ob (D7 .eql s b) λr=>G8 r sT (ob (D7 .add c (iI 1)) λq=>Py R a b q)) (ob (D7 .add c (iI 1)) λp=>Py R a b p) none) sF):=L8 []
def A8x:C9.p sN [a]=A3b C9 a:=CP func163
def xw:=eR f164 TE bL R [] (I4 f164 [(a,.val),(b,.own)] s)
def Jc:=hR f164 TE bL R (pb 58) (ms 29 [(1,a),(5,b)] [(1,.own)] [(2,bx c 7)] s)
def A5U:xw R a b s =
 (og (I5 7 a)<|ob (D7 .eql (C8 0 a) (iI 2)) λx=>G8 x (og (I9 (C8 3 a))<|ob (Dh 1 b (.list 1 [(C8 3 a)])) λy=>Jc R y (iI 0) a s) (Jc R b (iI 0) a s)):=H7 []
def eX:Jc R a b c s =
 (ob (O6 (C8 6 c)) λx=>ob (D7 .lss b x) λy=>G8 y (ob (O0 7 (C8 6 c) b) λz=>oc (R.r XO [((Ta z),.val),(a,.own)] s) λq4 s4=>ob (D7 .add b (iI 1)) λw=>Jc R q4 w c s4) (some ([a],s))):=L8 []
def A4L:C9.r XO [(a,.val),(b,.own)] s=xw C9 a b s:=BL (s:=TE) func164
def yA:=eP f165 uW R [] (I4 f165 [(a,.val)] [])
def A50:yA R a =
 (ob (D7 .eql a (iI 1)) λx=>G8 x (some (iI 0)) (ob (D7 .eql a (iI 2)) λy=>G8 y (some (iI 0)) (ob (D7 .eql a (iI 3)) λz=>G8 z (some (iI 0)) (ob (D7 .eql a (iI 4)) λw=>G8 w (some (iI 0)) (ob (D7 .eql a (iI 5)) λu=>G8 u (some (iI 0)) (ob (D7 .eql a (iI 6)) λv=>G8 v (some (iI 0)) (ob (D7 .eql a (iI 8)) λt=>G8 t (some (iI 1)) (ob (D7 .eql a (iI 7)) λs=>G8 s (some (iI 2)) (ob (D7 .eql a (iI 9)) λr=>G8 r (some (iI 2)) (some (.int .i64 (-1)))))))))))):=H7 []
def A4P:C9.p gW [a]=yA C9 a:=CP func165
def A0P:=eP f166 yT R [] (I4 f166 [(a,.val)] [])
def A8v:A0P R a =
 (ob (D7 .eql a (.str ⟨#[108,101,116]⟩)) λx=>G8 x sT (ob (D7 .eql a (.str ⟨#[114,101,99]⟩)) λy=>G8 y sT (ob (D7 .eql a (.str ⟨#[105,110]⟩)) λz=>G8 z sT (ob (D7 .eql a (.str ⟨#[102,117,110]⟩)) λw=>G8 w sT (ob (D7 .eql a (.str ⟨#[105,102]⟩)) λu=>G8 u sT (ob (D7 .eql a (.str ⟨#[116,104,101,110]⟩)) λv=>G8 v sT (ob (D7 .eql a (.str ⟨#[101,108,115,101]⟩)) λt=>G8 t sT (ob (D7 .eql a (.str ⟨#[109,97,116,99,104]⟩)) λs=>G8 s sT (ob (D7 .eql a (.str ⟨#[119,105,116,104]⟩)) λr=>G8 r sT (ob (D7 .eql a (.str ⟨#[101,110,100]⟩)) λq=>G8 q sT (ob (D7 .eql a (.str ⟨#[116,114,117,101]⟩)) λp=>G8 p sT (ob (D7 .eql a (.str ⟨#[102,97,108,115,101]⟩)) λo=>G8 o sT (ob (D7 .eql a (.str ⟨#[105,110,116]⟩)) λn=>G8 n sT (ob (D7 .eql a (.str ⟨#[98,111,111,108]⟩)) λm=>G8 m sT (ob (D7 .eql a (.str ⟨#[115,116,114,105,110,103]⟩)) λl=>
 G8 l sT (ob (D7 .eql a (.str ⟨#[117,110,105,116]⟩)) λk=>G8 k sT (ob (D7 .eql a (.str ⟨#[108,105,115,116]⟩)) λj=>G8 j sT sF))))))))))))))))):=H7 []
def A6k:C9.p mI [a]=A0P C9 a:=CP func166
def tF:=eP f167 qb R [] (I4 f167 [(a,.val)] [])
def A4A:tF R a =
 (ob (D7 .geq a (.int .u8 97)) λx=>M9 x (ob (D7 .leq a (.int .u8 122)) λy=>M9 y sT (ob (D7 .geq a (.int .u8 65)) λz=>M9 z (ob (D7 .leq a (.int .u8 90)) λw=>M9 w sT (ob (D7 .geq a (.int .u8 48)) λu=>M9 u (ob (D7 .leq a (.int .u8 57)) λv=>M9 v sT (ob (D7 .eql a (.int .u8 95)) λt=>M9 t sT (ob (D7 .eql a (.int .u8 39)) λs=>some s) none) none) (ob (D7 .eql a (.int .u8 95)) λr=>M9 r sT (ob (D7 .eql a (.int .u8 39)) λq=>some q) none) none) none) (ob (D7 .geq a (.int .u8 48)) λp=>M9 p (ob (D7 .leq a (.int .u8 57)) λo=>M9 o sT (ob (D7 .eql a (.int .u8 95)) λn=>M9 n sT (ob (D7 .eql a (.int .u8 39)) λm=>some m) none) none) (ob (D7 .eql a (.int .u8 95)) λl=>M9 l sT (ob (D7 .eql a (.int .u8 39)) λk=>some k) none) none) none) none) (ob (D7 .geq a (.int .u8 65)) λj=>M9 j (ob (D7 .leq a (.int .u8 90)) λi=>M9 i sT (ob (D7 .geq a (.int .u8 48)) λh=>
 M9 h (ob (D7 .leq a (.int .u8 57)) λg=>M9 g sT (ob (D7 .eql a (.int .u8 95)) λf=>M9 f sT (ob (D7 .eql a (.int .u8 39)) λe=>some e) none) none) (ob (D7 .eql a (.int .u8 95)) λd=>M9 d sT (ob (D7 .eql a (.int .u8 39)) λc=>some c) none) none) none) (ob (D7 .geq a (.int .u8 48)) λb=>M9 b (ob (D7 .leq a (.int .u8 57)) λX=>M9 X sT (ob (D7 .eql a (.int .u8 95)) λY=>M9 Y sT (ob (D7 .eql a (.int .u8 39)) λZ=>some Z) none) none) (ob (D7 .eql a (.int .u8 95)) λW=>M9 W sT (ob (D7 .eql a (.int .u8 39)) λU=>some U) none) none) none) none):=H7 []
def A2C:C9.p aN [a]=tF C9 a:=CP func167
def tC:=eP f168 qa R [] (I4 f168 [(a,.val)] [])
def A4y:tC R a =
 (og (I5 3 a)<|ob (R.p Sn [(CB a),(iI 6)]) λx=>some x):=H7 []
def A2B:C9.p UK [a]=tC C9 a:=CP func168
def qM:=eP f170 Wu R [] (I4 f170 [(a,.val)] [])
def Ah:=eP f170 Wu R (pb 15) (ms 83 [(4,a)] [] [(1,bx b 7),(3,bv [c,d,e,f,g,h,o])] [])
def A2m:qM R a =
 (og (I5 7 a)<|og (I9 (C8 0 a))<|og (I9 (C8 6 a))<|ob (D7 .eql (C8 0 a) (iI 1)) λx=>G8 x (Ah R (iI 0) a (C8 0 a) (C8 1 a) (C8 2 a) (.str ⟨#[]⟩) (iI 0) (.str ⟨#[]⟩) (C8 6 a)) (ob (D7 .eql (C8 0 a) (iI 6)) λy=>G8 y (Ah R (iI 0) a (C8 0 a) (C8 1 a) (C8 2 a) (.str ⟨#[]⟩) (iI 0) (.str ⟨#[]⟩) (C8 6 a)) (ob (D7 .eql (C8 0 a) (iI 8)) λz=>G8 z (Ah R (iI 0) a (C8 0 a) (C8 1 a) (C8 2 a) (.str ⟨#[]⟩) (iI 0) (.str ⟨#[]⟩) (C8 6 a)) (ob (D7 .eql (C8 0 a) (iI 2)) λw=>G8 w (og (I9 (C8 3 a))<|ob (R.p SG [(C8 3 a)]) λu=>ob (l8 .not u) λv=>G8 v sF (Ah R (iI 0) a (C8 0 a) (C8 1 a) (C8 2 a) (C8 3 a) (iI 0) (.str ⟨#[]⟩) (C8 6 a))) (ob (D7 .eql (C8 0 a) (iI 3)) λt=>G8 t (og (I9 (C8 4 a))<|Ah R (iI 0) a (C8 0 a) (C8 1 a) (C8 2 a) (.str ⟨#[]⟩) (C8 4 a) (.str ⟨#[]⟩) (C8 6 a)) (ob (D7 .eql (C8 0 a) (iI 4)) λs=>
 G8 s (og (I9 (C8 4 a))<|ob (D7 .neq (C8 4 a) (iI 0)) λr=>M9 r (ob (D7 .neq (C8 4 a) (iI 1)) λq=>G8 q sF (Ah R (iI 0) a (C8 0 a) (C8 1 a) (C8 2 a) (.str ⟨#[]⟩) (C8 4 a) (.str ⟨#[]⟩) (C8 6 a))) (Ah R (iI 0) a (C8 0 a) (C8 1 a) (C8 2 a) (.str ⟨#[]⟩) (C8 4 a) (.str ⟨#[]⟩) (C8 6 a)) none) (ob (D7 .eql (C8 0 a) (iI 5)) λo=>G8 o (og (I9 (C8 5 a))<|ob (Ez (C8 5 a)) λn=>ob (D7 .gtr n (iI 200)) λm=>G8 m sF (Ah R (iI 0) a (C8 0 a) (C8 1 a) (C8 2 a) (.str ⟨#[]⟩) (iI 0) (C8 5 a) (C8 6 a))) (ob (D7 .eql (C8 0 a) (iI 7)) λl=>G8 l (Ah R (iI 2) a (C8 0 a) (C8 1 a) (C8 2 a) (.str ⟨#[]⟩) (iI 0) (.str ⟨#[]⟩) (C8 6 a)) (ob (D7 .eql (C8 0 a) (iI 9)) λk=>G8 k (Ah R (iI 2) a (C8 0 a) (C8 1 a) (C8 2 a) (.str ⟨#[]⟩) (iI 0) (.str ⟨#[]⟩) (C8 6 a)) sF))))))))):=H7 [24]
def xN:Ah R a b c d e f g h o =
 (ob (O6 (C8 6 b)) λx=>ob (D7 .eql x a) λy=>M9 y (ob (D7 .eql f (C8 3 b)) λz=>M9 z (ob (D7 .eql g (C8 4 b)) λw=>M9 w (ob (D7 .eql h (C8 5 b)) λu=>some u) sF none) sF none) sF none):=H7 [24]
def A1j:C9.p YZ [a]=qM C9 a:=CP func170
def Xo:=eR f171 JO Ov R [] (I4 f171 [(pt i),(a,.val)] s)
def MU:=hR f171 JO Ov R (pb 28) (ms 27 [(1,a)] [(0,(.ptr i 0))] [] s)
def rW:Xo R i a s =
 (oc (R.r Y2 [(pt i),(a,.val)] s) λq1 s1=>ob (l8 .not q1) λx=>G8 x (some ([(.int .i64 (-1))],s1)) (MU R i a s1)):=H7 []
def SS:MU R i a s =
 (ob (H5 s i) λc1=>ob (Ao c1 0 5) λv2=>ob (l7 0 v2.2.2 a) λn3=>ob (V5 s v2.1 v2.2.1) λa4=>ob (a4.2[n3]?) λx=>og (a4.1==5)<|ob (D7 .geq (C8 2 x) (iI 0)) λy=>G8 y (ob (H5 s i) λc7=>ob (Ao c7 0 5) λv8=>ob (l7 0 v8.2.2 a) λn9=>ob (V5 s v8.1 v8.2.1) λa10=>ob (a10.2[n9]?) λz=>og (a10.1==5)<|MU R i (C8 2 z) s) (some ([a],s))):=L8 []
def nX:C9.r Q7 [(.undef,(.ptr i 0)),(a,.val)] s=Xo C9 i a s:=BL (s:=JO) func171
def WG:=eR f172 NG VF R [] (I4 f172 [(pt i),(a,.val)] s)
def nE:WG R i a s =
 (ob (H5 s i) λc1=>ob (U6 c1 3) λy=>ob (D7 .add y (iI 1)) λx=>ob (H5 s i) λc4=>og (I9 x)<|ob (c4[3]?) λu5=>oc (R.r Kt [(pt i),(a,.val),((.list 1 []),.own)] (s.set i (E5.box (c4.set 3 (x,.val))))) λq6 s6=>some ([q6],s6)):=H7 []
def kQ:C9.r EG [(.undef,(.ptr i 0)),(a,.val)] s=WG C9 i a s:=BL (s:=NG) func172
def TY:=eR f173 Dw Gy R [] (I4 f173 [(pt i),(a,.val)] s)
def GG:=eR f173 Dw Gy R (pb 31) (ms 64 [(1,a),(6,b)] [(0,(.ptr i 0))] [] s)
def B_:=hR f173 Dw Gy R (pb 250) (ms 64 [(1,a),(6,b),(41,c),(42,d),(43,e)] [(0,(.ptr i 0))] [] s)
def iC:TY R i a s =
 (ob (H5 s i) λc1=>ob (Bn c1 2) λi2=>og (Z4 false a&&true)<|ob (Q5 s i2) λm3=>og (m3.1==false)<|ob (D7 .gtr ((V7 m3.2 a).getD (iI 0)) (iI 0)) λx=>G8 x (ob (D7 .eql ((V7 m3.2 a).getD (iI 0)) (iI 1)) λy=>some ([y],s)) (ob (H5 s i) λc6=>ob (Bn c6 1) λi7=>og (Z4 false a&&true)<|ob (Q5 s i7) λm8=>og (m8.1==false)<|G8 (.bool (V7 m8.2 a).isSome) (GG R i a (iI 1) s) (GG R i a (iI 2) s))):=H7 [8]
def bA:GG R i a b s =
 (ob (H5 s i) λc1=>ob (X8 c1 0) λi2=>ob (H5 s i2) λc3=>ob (Ao c3 0 5) λv4=>ob (l7 0 v4.2.2 a) λn5=>ob (V5 s v4.1 v4.2.1) λa6=>ob (a6.2[n5]?) λx=>og (a6.1==5)<|ob (O6 (C8 3 x)) λy=>B_ R i a b (C8 3 x) y (iI 0) s):=H7 [8]
def PZ:B_ R i a b c d e s =
 (ob (D7 .lss e d) λy=>G8 y (ob (O0 1 c e) λx=>og (M8 x)<|ob (H5 s i) λc3=>ob (X8 c3 0) λi4=>oc (R.r Q7 [(pt i4),(x,.val)] s) λq5 s5=>oc (R.r Eh [(pt i),(q5,.val)] s5) λq6 s6=>G8 q6 (ob (D7 .add e (iI 1)) λz=>B_ R i a (iI 1) c d z s6) (ob (D7 .add e (iI 1)) λw=>B_ R i a b c d w s6)) (ob (H5 s i) λc9=>ob (Bn c9 2) λi10=>og (Z4 false a&&true&&true)<|ob (Q5 s i10) λm11=>og (m11.1==false)<|ob (D7 .eql b (iI 1)) λu=>some ([u],(s.set i10 (E5.map false (Bb m11.2 a b)))))):=L8 [8]
def dR:C9.r Eh [(.undef,(.ptr i 0)),(a,.val)] s=TY C9 i a s:=BL (s:=Dw) func173
def Ue:=eR f174 Ha Mj R [] (I4 f174 [(pt i),(a,.val)] s)
def Bz:=hR f174 Ha Mj R (pb 1018) (ms 95 [(5,a),(10,b),(57,c),(58,d),(59,e)] [(0,(.ptr i 0)),(10,.own)] [] s)
def jy:Ue R i a s =
 (ob (H5 s i) λc1=>ob (X8 c1 0) λi2=>oc (R.r Q7 [(pt i2),(a,.val)] s) λq3 s3=>ob (H5 s3 i) λc4=>ob (Bn c4 1) λi5=>og (Z4 false q3&&true)<|ob (Q5 s3 i5) λm6=>og (m6.1==false)<|G8 (.bool (V7 m6.2 q3).isSome) (some ([((V7 m6.2 q3).getD (iI 0))],s3)) (oc (R.r Eh [(pt i),(q3,.val)] s3) λq7 s7=>ob (l8 .not q7) λy=>G8 y (some ([q3],s7)) (ob (H5 s7 i) λc9=>ob (Bn c9 3) λi10=>og (Z4 false q3&&true)<|ob (Q5 s7 i10) λm11=>og (m11.1==false)<|G8 (.bool (V7 m11.2 q3).isSome) (some ([((V7 m11.2 q3).getD (iI 0))],s7)) (ob (H5 s7 i) λc12=>ob (X8 c12 0) λi13=>ob (H5 s7 i13) λc14=>ob (Ao c14 0 5) λv15=>ob (l7 0 v15.2.2 q3) λn16=>ob (V5 s7 v15.1 v15.2.1) λa17=>ob (a17.2[n16]?) λx=>og (a17.1==5)<|ob (O6 (C8 3 x)) λz=>
 Bz R i q3 (.list 1 []) (C8 3 x) z (iI 0) s7)))):=H7 []
def PY:Bz R i a b c d e s =
 (ob (D7 .lss e d) λz=>G8 z (ob (O0 1 c e) λx=>og (M8 x)<|oc (R.r Iw [(pt i),(x,.val)] s) λq3 s3=>og (I9 q3)<|ob (Dh 1 b (.list 1 [q3])) λw=>ob (D7 .add e (iI 1)) λu=>Bz R i a w c d u s3) (ob (H5 s i) λc6=>ob (X8 c6 0) λi7=>ob (H5 s i) λc8=>ob (X8 c8 0) λi9=>ob (H5 s i9) λc10=>ob (Ao c10 0 5) λv11=>ob (l7 0 v11.2.2 a) λn12=>ob (V5 s v11.1 v11.2.1) λa13=>ob (a13.2[n12]?) λy=>og (a13.1==5)<|og (I9 (C8 0 y))<|oc (R.r BK [(pt i7),((.agg [(C8 0 y),(iI 0),(iI 0),b,(iI 0)]),.val)] s) λq15 s15=>ob (H5 s15 i) λc16=>ob (Bn c16 3) λi17=>og (Z4 false a&&true&&true)<|ob (Q5 s15 i17) λm18=>og (m18.1==false)<|some ([q15],(s15.set i17 (E5.map false (Bb m18.2 a q15)))))):=L8 []
def iR:C9.r Iw [(.undef,(.ptr i 0)),(a,.val)] s=Ue C9 i a s:=BL (s:=Ha) func174
def Yx:=eR f175 PH YJ R [] (I4 f175 [(pt i),(a,.val)] s)
def uH:Yx R i a s =
 (og (I5 5 a)<|ob (H5 s i) λc1=>ob (Ao c1 0 5) λv2=>ob (V5 s v2.1 v2.2.1) λa3=>og (a3.1==5&&true&&decide (v2.2.2<=a3.2.length))<|ob (KJ 5 (.list 5 (a3.2.take v2.2.2)) (.list 5 [(.agg [(C8 0 a),(C8 1 a),(.int .i64 (-1)),(C8 3 a),(C8 4 a)])])) λp4=>ob (H5 (s.set v2.1 (E5.P9 (v2.2.1+1) 5 (p4.1++p4.2))) i) λc5=>ob (c5[0]?) λu6=>ob (H5 ((s.set v2.1 (E5.P9 (v2.2.1+1) 5 (p4.1++p4.2))).set i (E5.box (c5.set 0 (.undef,(.P9 v2.1 (v2.2.1+1) 5 (p4.1.length+p4.2.length)))))) i) λc7=>ob (U6 c7 2) λy=>ob (D7 .add y (iI 1)) λx=>ob (H5 ((s.set v2.1 (E5.P9 (v2.2.1+1) 5 (p4.1++p4.2))).set i (E5.box (c5.set 0 (.undef,(.P9 v2.1 (v2.2.1+1) 5 (p4.1.length+p4.2.length)))))) i) λc10=>og (I9 x)<|ob (c10[2]?) λu11=>ob (H5 (((s.set v2.1 (E5.P9 (v2.2.1+1) 5 (p4.1++p4.2))).set i (E5.box (c5.set 0 (.undef,(.P9 v2.1 (v2.2.1+1) 5 (p4.1.length+p4.2.length)))))).set i (E5.box (c10.set 2 (x,.val)))) i) λc12=>ob (Ao c12 0 5) λv13=>ob (iw v13.2.2) λz=>ob (D7 .sub z (iI 1)) λw=>
 some ([w],(((s.set v2.1 (E5.P9 (v2.2.1+1) 5 (p4.1++p4.2))).set i (E5.box (c5.set 0 (.undef,(.P9 v2.1 (v2.2.1+1) 5 (p4.1.length+p4.2.length)))))).set i (E5.box (c10.set 2 (x,.val)))))):=H7 []
def sJ:C9.r BK [(.undef,(.ptr i 0)),(a,.val)] s=Yx C9 i a s:=BL (s:=PH) func175
def su:=eP f177 Yh R [] (I4 f177 [(a,.val)] [])
def PQ:=eP f177 Yh R (pb 430) (ms 28 [] [] [(1,bx a 16)] [])
def A4x:su R a =
 (og (I5 16 a)<|ob (D7 .eql (C8 0 a) (iI 1)) λx=>G8 x sT (ob (D7 .eql (C8 0 a) (iI 2)) λy=>G8 y sT (ob (D7 .eql (C8 0 a) (iI 3)) λz=>G8 z sT (ob (D7 .eql (C8 0 a) (iI 4)) λw=>G8 w sT (ob (D7 .eql (C8 0 a) (iI 5)) λu=>G8 u sT (ob (D7 .eql (C8 0 a) (iI 7)) λv=>G8 v sT (ob (D7 .eql (C8 0 a) (iI 9)) λt=>G8 t sT (ob (D7 .eql (C8 0 a) (iI 6)) λs=>G8 s (PQ R a) (ob (D7 .eql (C8 0 a) (iI 8)) λr=>G8 r (PQ R a) sF))))))))):=H7 [12]
def zZ:PQ R a =
 (ob (O0 16 (C8 15 a) (iI 0)) λx=>ob (R.p Ps [(X5 x)]) λy=>M9 y (ob (O0 16 (C8 15 a) (iI 1)) λz=>ob (R.p Ps [(X5 z)]) λw=>some w) sF none):=H7 [12]
def A2A:C9.p Ps [a]=su C9 a:=CP func177
def Xp:=eR f178 JP Ow R [] (I4 f178 [(pt i),(a,.val)] s)
def Ej:=hR f178 JP Ow R (pb 122) (ms 35 [(5,a),(14,b),(15,c),(16,d)] [(0,(.ptr i 0)),(5,.own)] [] s)
def rX:Xp R i a s =
 (oc (R.r Y2 [(pt i),(a,.val)] s) λq1 s1=>ob (l8 .not q1) λx=>G8 x (some ([(.list 1 [])],s1)) (oc (R.r EG [(pt i),(a,.val)] s1) λq3 s3=>ob (O6 q3) λy=>Ej R i (.list 1 []) q3 y (iI 0) s3)):=H7 []
def SV:Ej R i a b c d s =
 (ob (D7 .lss d c) λy=>G8 y (ob (O0 1 b d) λx=>og (M8 x)<|ob (H5 s i) λc3=>ob (Ao c3 0 5) λv4=>ob (l7 0 v4.2.2 x) λn5=>ob (V5 s v4.1 v4.2.1) λa6=>ob (a6.2[n5]?) λz=>og (a6.1==5)<|ob (D7 .eql (C8 0 z) (iI 6)) λw=>G8 w (og (I9 x)<|ob (Dh 1 a (.list 1 [x])) λu=>ob (D7 .add d (iI 1)) λv=>Ej R i u b c v s) (ob (D7 .add d (iI 1)) λt=>Ej R i a b c t s)) (some ([a],s))):=L8 []
def nY:C9.r Kr [(.undef,(.ptr i 0)),(a,.val)] s=Xp C9 i a s:=BL (s:=JP) func178
def WC:=eR f179 NE VD R [] (I4 f179 [(pt i),(a,.val)] s)
def nA:WC R i a s =
 (oc (R.r Y5 [(pt i),(a,.val)] s) λq1 s1=>ob (D7 .neq q1 (iI 6)) λx=>G8 x (some ([(.int .i64 (-1))],s1)) (ob (H5 s1 i) λc3=>ob (Ao c3 0 5) λv4=>oc (R.r Q7 [(pt i),(a,.val)] s1) λq5 s5=>Mv (s5[i]?=s1[i]?)<|ob (l7 0 v4.2.2 q5) λn6=>ob (V5 s5 v4.1 v4.2.1) λa7=>ob (a7.2[n6]?) λy=>og (a7.1==5)<|some ([(C8 1 y)],s5))):=H7 []
def kM:C9.r GQ [(.undef,(.ptr i 0)),(a,.val)] s=WC C9 i a s:=BL (s:=NE) func179
def dY:=eR f180 Fu Jq R [] (I4 f180 [(pt i),(a,.val),(b,.val)] s)
def Ky:=eR f180 Fu Jq R (pb 15) (ms 108 [(7,a)] [(0,(.ptr i 0))] [(4,bx b 7)] s)
def Kw:=eR f180 Fu Jq R (pb 15102) (ms 108 [(2,a)] [(0,(.ptr i 0))] [(4,bx b 7)] s)
def KI:=hR f180 Fu Jq R (pb 122) (ms 108 [(7,a),(90,b),(91,c),(92,d)] [(0,(.ptr i 0))] [] s)
def zW:dY R i a b s =
 (og (I5 7 a)<|ob (D7 .eql (C8 0 a) (iI 1)) λy=>G8 y (some ([(iI 0)],s)) (ob (D7 .eql (C8 0 a) (iI 2)) λz=>G8 z (ob (H5 s i) λc3=>ob (Qw c3 2 1) λv4=>og (I9 (C8 3 a))<|ob (Sb s v4.2.1 v4.2.2 1 v4.1 (.list 1 [(C8 3 a)])) λp5=>ob (H5 p5.2 i) λc6=>ob (Qw c6 3 1) λv7=>Mv (p5.2[i]?=s[i]?)<|og (I9 b)<|ob (Sb p5.2 v7.2.1 v7.2.2 1 v7.1 (.list 1 [b])) λp8=>ob (H5 p8.2 i) λc9=>ob (c9[2]?) λu10=>ob (H5 (p8.2.set i (E5.box (c9.set 2 (p5.1,(.U0 v4.2.1 (v4.2.2+1) 1))))) i) λc11=>ob (c11[3]?) λu12=>some ([(iI 0)],((p8.2.set i (E5.box (c9.set 2 (p5.1,(.U0 v4.2.1 (v4.2.2+1) 1))))).set i (E5.box (c11.set 3 (p8.1,(.U0 v7.2.1 (v7.2.2+1) 1))))))) (ob (D7 .eql (C8 0 a) (iI 7)) λw=>G8 w (ob (R.r CV [(pt i),((Ta a),.val),(b,.val),((iI 7),.val),((iI 2),.val)] s) λq14=>ob (Q0 0 (.J6 q14.1)) λu=>ob (Q0 1 (.J6 q14.1)) λm=>ob (Q0 2 (.J6 q14.1)) λx=>ob (D7 .neq x (iI 0)) λv=>G8 v (some ([x],q14.2)) (Ky R i u a q14.2)) (ob (D7 .eql (C8 0 a) (iI 8)) λt=>
 G8 t (Kw R i b a s) (ob (D7 .eql (C8 0 a) (iI 9)) λq=>G8 q (Kw R i b a s) (ob (R.p gQ [(C8 0 a)]) λo=>ob (D7 .sub o (iI 1)) λn=>oc (R.r MF [(pt i),((Ta a),.val),(b,.val),(n,.val)] s) λq23 s23=>some ([q23],s23))))))):=H7 [16,20]
def rO:Ky R i a b s =
 (ob (O6 (C8 6 b)) λx=>KI R i a (C8 6 b) x (iI 0) s):=H7 [16,20]
def rJ:Kw R i a b s =
 (ob (R.r CV [(pt i),((Ta b),.val),(a,.val),((iI 8),.val),((iI 1),.val)] s) λq1=>ob (Q0 0 (.J6 q1.1)) λz=>ob (Q0 1 (.J6 q1.1)) λy=>ob (Q0 2 (.J6 q1.1)) λx=>ob (D7 .neq x (iI 0)) λw=>M9 w (some ([x],q1.2)) (ob (D7 .eql (C8 0 b) (iI 8)) λu=>G8 u (some ([x],q1.2)) (og (I9 y)<|ob (Dh 1 z (.list 1 [y])) λv=>Ky R i v b q1.2)) none):=H7 [16,20]
def Uq:KI R i a b c d s =
 (ob (D7 .lss d c) λy=>G8 y (ob (O0 7 b d) λz=>ob (O0 1 a d) λx=>og (M8 x)<|oc (R.r IC [(pt i),((Ta z),.val),(x,.val)] s) λq4 s4=>ob (D7 .neq q4 (iI 0)) λw=>G8 w (some ([q4],s4)) (ob (D7 .add d (iI 1)) λu=>KI R i a b c u s4)) (some ([(iI 0)],s))):=L8 [16,20]
def xP:C9.r IC [(.undef,(.ptr i 0)),(a,.val),(b,.val)] s=dY C9 i a b s:=BL (s:=Fu) func180
def sV:=eP f181 Yg R [] (I4 f181 [(a,.val),(b,.val)] [])
def PN:=hP f181 Yg R (pb 122) (ms 31 [(1,a),(5,b),(13,c),(14,d),(15,e)] [] [] [])
def A4r:sV R a b =
 (og (I5 3 a)<|ob (O6 (C8 2 a)) λx=>ob (D7 .eql x (iI 0)) λy=>G8 y (some (iI 0)) (ob (O6 (C8 2 a)) λz=>PN R b (iI 1) (C8 2 a) z (iI 0))):=H7 []
def bB:PN R a b c d e =
 (ob (D7 .lss e d) λx=>G8 x (ob (O0 3 c e) λy=>ob (D7 .gtr b a) λz=>G8 z (some b) (ob (D7 .sub a b) λw=>ob (R.p UI [(CB y),w]) λu=>ob (D7 .add b u) λv=>ob (D7 .add e (iI 1)) λt=>PN R a v c d t)) (some b)):=L8 []
def A2x:C9.p UI [a,b]=sV C9 a b:=CP func181
end
end
noncomputable section
open Go.Proofs
open Tryz
variable (R: O8)(i l m n: Nat)(a b c d e f g o p q r t u v w x y z a5 a8 a12 a14 a15 a16 a17 a22: DV)(s: List E5)
def Yy:=eR f182 KS QP R [] (I4 f182 [(pt i),(a,.val)] s)
def Df:=hR f182 KS QP R (pb 122) (ms 35 [(5,a),(16,b),(17,c),(18,d)] [(0,(.ptr i 0)),(5,.own)] [(3,bx e 3)] s)
def uI:Yy R i a s =
 (og (I5 3 a)<|ob (O6 (C8 2 a)) λx=>ob (D7 .eql x (iI 0)) λy=>G8 y (ob (D7 .sub (C8 0 a) (iI 1)) λz=>some ([z],s)) (ob (O6 (C8 2 a)) λw=>Df R i (.list 1 []) (C8 2 a) w (iI 0) a s)):=H7 []
def Tg:Df R i a b c d e s =
 (ob (D7 .lss d c) λx=>G8 x (ob (O0 3 b d) λy=>oc (R.r MG [(pt i),((CB y),.val)] s) λq3 s3=>og (I9 q3)<|ob (Dh 1 a (.list 1 [q3])) λz=>ob (D7 .add d (iI 1)) λw=>Df R i z b c w e s3) (og (I9 (C8 0 e))<|oc (R.r BK [(pt i),((.agg [(C8 0 e),(iI 0),(iI 0),a,(iI 0)]),.val)] s) λq6 s6=>some ([q6],s6))):=L8 []
def sK:C9.r MG [(.undef,(.ptr i 0)),(a,.val)] s=Yy C9 i a s:=BL (s:=KS) func182
def WE:=eR f183 NF VE R [] (I4 f183 [(pt i),(a,.val),(b,.val)] s)
def nC:WE R i a b s =
 (oc (R.r Y2 [(pt i),(a,.val)] s) λq1 s1=>ob (l8 .not q1) λx=>M9 x (some ([(iI 1)],s1)) (ob (D7 .lss b (iI 0)) λy=>G8 y (some ([(iI 1)],s1)) (oc (R.r KH [(pt i),(a,.val),(b,.val)] s1) λq4 s4=>some ([(iI 0)],s4))) none):=H7 []
def kN:C9.r KG [(.undef,(.ptr i 0)),(a,.val),(b,.val)] s=WE C9 i a b s:=BL (s:=NF) func183
def jE:=eR f184 Ny VB R [] (I4 f184 [(pt i),(a,.val),(b,.val)] s)
def Dy(R:O8)(t0i:Nat)(t1 t2:DV)(t8r0 t8r1 t8r3:Nat)(t35 t36:DV)(sg:List E5):Option (List DV×List E5):=hR f184 Ny VB R (pb 250) (ms 77 [(1,t1),(2,t2),(35,t35),(36,t36)] [(0,(.ptr t0i 0)),(8,(.P9 t8r0 t8r1 1 t8r3))] [] sg)
def A07:jE R i a b s =
 (oc (R.r Y5 [(pt i),(b,.val)] s) λq1 s1=>ob (D7 .eql q1 (iI 6)) λx=>M9 x (oc (R.r Ef [(pt i),(a,.val),(b,.val)] s1) λq3 s3=>some ([(.int .i64 (-1)),q3],s3)) (oc (R.r NS [(pt i),(b,.val)] s1) λq4 s4=>G8 q4 (oc (R.r Ef [(pt i),(a,.val),(b,.val)] s4) λq5 s5=>some ([(.int .i64 (-1)),q5],s5)) (oc (R.r Iu [(pt i),(a,.val),(b,.val)] s4) λq6 s6=>G8 q6 (some ([(.int .i64 (-1)),(iI 5)],s6)) (oc (R.r DL [(pt i),(b,.val)] (s6++[E5.P9 1 1 [(iI 0),(iI 0)]])) λq7 s7=>ob (O6 q7) λy=>Dy R i a b (s6.length) 1 2 y (iI 0) s7))) none):=H7 []
def YE(R:O8)(t0i:Nat)(t1 t2:DV)(t8r0 t8r1 t8r3:Nat)(t35 t36:DV)(sg:List E5):Dy R t0i t1 t2 t8r0 t8r1 t8r3 t35 t36 sg =
 (ob (D7 .lss t36 t35) λt=>G8 t (oc (R.r GQ [(pt t0i),(t1,.val)] sg) λq2 s2=>ob (R.r Ii [(pt t0i),(q2,.val)] s2) λq3=>ob (Q0 0 (.J6 q3.1)) λx=>ob (Q0 1 (.J6 q3.1)) λy=>ob (D7 .neq y (iI 0)) λs=>G8 s (some ([(.int .i64 (-1)),y],q3.2)) (ob (l7 0 t8r3 t36) λn7=>ob (V5 q3.2 t8r0 t8r1) λa8=>ob (a8.2[n7]?) λq=>og (a8.1==1)<|og (I9 x)<|ob (Kj 1 0 q [(x,.val)]) λe10=>ob (D7 .add t36 (iI 1)) λp=>Dy R t0i t1 t2 t8r0 t8r1 t8r3 t35 p (q3.2.set t8r0 (E5.P9 t8r1 1 (a8.2.set n7 e10))))) (oc (R.r Y5 [(pt t0i),(t2,.val)] sg) λq12 s12=>ob (l7 0 t8r3 (iI 0)) λn13=>ob (V5 s12 t8r0 t8r1) λa14=>ob (a14.2[n13]?) λz=>og (a14.1==1)<|og (M8 z)<|Mv (s12[t8r0]?=sg[t8r0]?)<|ob (l7 0 t8r3 (iI 1)) λn16=>ob (V5 s12 t8r0 t8r1) λa17=>ob (a17.2[n16]?) λw=>og (a17.1==1)<|og (M8 w)<|Mv (s12[t8r0]?=sg[t8r0]?)<|ob (R.r Eg [(pt t0i),(q12,.val),(z,.val),(w,.val)] s12) λq19=>
 ob (Q0 0 (.J6 q19.1)) λu=>ob (Q0 1 (.J6 q19.1)) λv=>ob (D7 .neq v (iI 0)) λo=>G8 o (some ([(.int .i64 (-1)),v],q19.2)) (oc (R.r Ef [(pt t0i),(t1,.val),(u,.val)] q19.2) λq23 s23=>some ([u,q23],s23)))):=L8 []
def zk:C9.r Qn [(.undef,(.ptr i 0)),(a,.val),(b,.val)] s=jE C9 i a b s:=BL (s:=Ny) func184
def xh:=eP f197 uQ R [] (I4 f197 [(a,.val)] [])
def A5P:xh R a =
 (ob (D7 .geq a (.int .u8 48)) λx=>M9 x (ob (D7 .leq a (.int .u8 57)) λy=>some y) sF none):=H7 []
def A4G:C9.p gT [a]=xh C9 a:=CP func197
def qN:=eP f198 Wv R [] (I4 f198 [(a,.val),(b,.val)] [])
def Jl:=hP f198 Wv R (pb 58) (ms 23 [(1,a),(12,b),(13,c),(14,d)] [] [] [])
def A2s:qN R a b =
 (og (I5 3 a)<|ob (D7 .eql (C8 0 a) b) λx=>G8 x sF (ob (O6 (C8 2 a)) λy=>Jl R b (C8 2 a) y (iI 0))):=H7 []
def ZE:Jl R a b c d =
 (ob (D7 .lss d c) λx=>G8 x (ob (O0 3 b d) λy=>ob (R.p Sn [(CB y),a]) λz=>ob (l8 .not z) λw=>G8 w sF (ob (D7 .add d (iI 1)) λu=>Jl R a b c u)) sT):=L8 []
def A1k:C9.p Sn [a,b]=qN C9 a b:=CP func198
def Xq:=eR f201 JQ Ox R [] (I4 f201 [(pt i),(a,.val),(b,.own)] s)
def IE:=hR f201 JQ Ox R (pb 506) (ms 61 [(2,a),(49,b),(50,c),(51,d)] [(0,(.ptr i 0)),(2,.own)] [] s)
def rY:Xq R i a b s =
 (oc (R.r Q7 [(pt i),(a,.val)] s) λq1 s1=>ob (H5 s1 i) λc2=>ob (Ao c2 0 5) λv3=>ob (l7 0 v3.2.2 q1) λn4=>ob (V5 s1 v3.1 v3.2.1) λa5=>ob (a5.2[n4]?) λz=>og (a5.1==5)<|ob (H5 s1 i) λc7=>ob (U6 c7 3) λw=>ob (D7 .eql (C8 4 z) w) λu=>G8 u (some ([b],s1)) (ob (H5 s1 i) λc10=>ob (Ao c10 0 5) λv11=>ob (H5 s1 i) λc12=>ob (U6 c12 3) λx=>ob (l7 0 v11.2.2 q1) λn14=>ob (V5 s1 v11.1 v11.2.1) λa15=>ob (a15.2[n14]?) λv=>og (a15.1==5)<|og (I9 x)<|ob (Kj 5 4 v [(x,.val)]) λe17=>og (I9 q1)<|ob (Dh 1 b (.list 1 [q1])) λt=>ob (H5 (s1.set v11.1 (E5.P9 v11.2.1 5 (a15.2.set n14 e17))) i) λc19=>ob (Ao c19 0 5) λv20=>ob (l7 0 v20.2.2 q1) λn21=>ob (V5 (s1.set v11.1 (E5.P9 v11.2.1 5 (a15.2.set n14 e17))) v20.1 v20.2.1) λa22=>ob (a22.2[n21]?) λy=>og (a22.1==5)<|ob (O6 (C8 3 y)) λq=>IE R i t (C8 3 y) q (iI 0) (s1.set v11.1 (E5.P9 v11.2.1 5 (a15.2.set n14 e17))))):=H7 []
def SX:IE R i a b c d s =
 (ob (D7 .lss d c) λy=>G8 y (ob (O0 1 b d) λx=>og (M8 x)<|oc (R.r Kt [(pt i),(x,.val),(a,.own)] s) λq3 s3=>ob (D7 .add d (iI 1)) λz=>IE R i q3 b c z s3) (some ([a],s))):=L8 []
def nZ:C9.r Kt [(.undef,(.ptr i 0)),(a,.val),(b,.own)] s=Xq C9 i a b s:=BL (s:=JQ) func201
def aO:=eR f202 Ld Rx R [] (I4 f202 [(pt i),(a,.val),(b,.val),(c,.val),(d,.val)] s)
def Ct:=hR f202 Ld Rx R (pb 26) (ms 65 [(2,a),(3,b),(4,c),(10,d),(15,e),(16,f)] [(0,(.ptr i 0)),(10,.own)] [(6,bx g 7)] s)
def xK:aO R i a b c d s =
 (og (I5 7 a)<|Ct R i b c d (.list 1 []) d (iI 0) a s):=H7 []
set_option maxRecDepth 100000 in
def Uo:Ct R i a b c d e f g s =
 (ob (D7 .lss f e) λt=>G8 t (ob (H5 s i) λc2=>ob (X8 c2 0) λi3=>ob (H5 s i) λc4=>ob (U6 c4 1) λq=>ob (R.r Ii [(pt i3),(q,.val)] s) λq6=>ob (Q0 0 (.J6 q6.1)) λx=>ob (Q0 1 (.J6 q6.1)) λy=>ob (D7 .neq y (iI 0)) λp=>G8 p (some ([(.list 1 []),(iI 0),y],q6.2)) (og (I9 x)<|ob (Dh 1 d (.list 1 [x])) λo=>ob (D7 .add f (iI 1)) λn=>Ct R i a b c o e n g q6.2)) (ob (H5 s i) λc12=>ob (X8 c12 0) λi13=>ob (O0 1 d (iI 0)) λz=>og (M8 z)<|ob (D7 .sub c (iI 1)) λm=>ob (O0 1 d m) λw=>og (M8 w)<|ob (R.r Eg [(pt i13),(b,.val),(z,.val),(w,.val)] s) λq17=>ob (Q0 0 (.J6 q17.1)) λu=>ob (Q0 1 (.J6 q17.1)) λv=>ob (D7 .neq v (iI 0)) λl=>G8 l (some ([(.list 1 []),(iI 0),v],q17.2)) (oc (R.r MF [(pt i),((Ta g),.val),(a,.val),(u,.val)] q17.2) λq21 s21=>some ([d,u,q21],s21)))):=L8 []
def uN:C9.r CV [(.undef,(.ptr i 0)),(a,.val),(b,.val),(c,.val),(d,.val)] s=aO C9 i a b c d s:=BL (s:=Ld) func202
def Yu:=eR f203 O_ YG R [] (I4 f203 [(pt i),(a,.val),(b,.val),(c,.val)] s)
def uD:Yu R i a b c s =
 (og (I5 7 a)<|ob (H5 s i) λc1=>ob (X8 c1 0) λi2=>ob (R.r Sl [(pt i2),(b,.val),(c,.val)] s) λq3=>ob (Q0 0 (.J6 q3.1)) λy=>ob (Q0 1 (.J6 q3.1)) λz=>ob (Q0 2 (.J6 q3.1)) λx=>ob (D7 .neq x (iI 0)) λw=>M9 w (ob (D7 .neq x (iI 7)) λu=>G8 u (og (I9 x)<|og (I9 y)<|og (I9 z)<|ob (H5 q3.2 i) λc9=>if 4+6<=c9.length then(some ([x],(q3.2.set i (E5.box (FC c9 4 [((C8 1 a),.val),((C8 2 a),.val),(x,.val),(y,.val),(z,.val),((.str ⟨#[]⟩),.val)])))))else none) (some ([x],q3.2))) (some ([x],q3.2)) none):=H7 []
def sG:C9.r MF [(.undef,(.ptr i 0)),(a,.val),(b,.val),(c,.val)] s=Yu C9 i a b c s:=BL (s:=O_) func203
def xg:=eP f204 uP R [] (I4 f204 [(a,.val)] [])
def A5O:xg R a =
 (ob (D7 .eql a (iI 3)) λx=>G8 x (some (iI 1)) (ob (D7 .eql a (iI 4)) λy=>G8 y (some (iI 2)) (ob (D7 .eql a (iI 5)) λz=>G8 z (some (iI 3)) (ob (D7 .eql a (iI 6)) λw=>G8 w (some (iI 4)) (ob (D7 .eql a (iI 8)) λu=>G8 u (some (iI 8)) (some (iI 0))))))):=H7 []
def A4F:C9.p gQ [a]=xg C9 a:=CP func204
def WF:=eR f205 Ia Ni R [] (I4 f205 [(pt i),(a,.val),(b,.val)] s)
def Gv:=hR f205 Ia Ni R (pb 6) (ms 34 [(2,a),(10,b),(11,c),(12,d)] [(0,(.ptr i 0))] [] s)
def nD:WF R i a b s =
 (oc (R.r Kr [(pt i),(a,.val)] s) λq1 s1=>ob (O6 q1) λx=>Gv R i b q1 x (iI 0) s1):=H7 []
def Rf:Gv R i a b c d s =
 (ob (D7 .lss d c) λz=>G8 z (ob (O0 1 b d) λx=>og (M8 x)<|ob (H5 s i) λc3=>ob (Ao c3 0 5) λv4=>ob (H5 s i) λc5=>ob (Ao c5 0 5) λv6=>ob (l7 0 v6.2.2 x) λn7=>ob (V5 s v6.1 v6.2.1) λa8=>ob (a8.2[n7]?) λw=>og (a8.1==5)<|ob (ae (C8 1 w) a) λy=>ob (l7 0 v4.2.2 x) λn11=>ob (V5 s v4.1 v4.2.1) λa12=>ob (a12.2[n11]?) λu=>og (a12.1==5)<|og (I9 y)<|ob (Kj 5 1 u [(y,.val)]) λe14=>ob (D7 .add d (iI 1)) λv=>Gv R i a b c v (s.set v4.1 (E5.P9 v4.2.1 5 (a12.2.set n11 e14)))) (some ([],s))):=L8 []
def kP:C9.r KH [(.undef,(.ptr i 0)),(a,.val),(b,.val)] s=WF C9 i a b s:=BL (s:=Ia) func205
def Uc:=eR f206 L_ Tu R [] (I4 f206 [(pt i),(a,.val)] s)
def jv:Uc R i a s =
 (oc (R.r Y2 [(pt i),(a,.val)] s) λq1 s1=>M9 q1 (oc (R.r EG [(pt i),(a,.val)] s1) λq2 s2=>ob (R.p Ca [q2,(iI 4)]) λx=>ob (l8 .not x) λy=>some ([y],s2)) (some ([(.bool false)],s1)) none):=H7 []
def iP:C9.r NS [(.undef,(.ptr i 0)),(a,.val)] s=Uc C9 i a s:=BL (s:=L_) func206
def K_:=eR f207 OA WN R [] (I4 f207 [(pt i),(a,.val),(b,.val)] s)
set_option maxRecDepth 100000 in
def rT:K_ R i a b s =
 (oc (R.r Q7 [(pt i),(a,.val)] s) λq1 s1=>oc (R.r Q7 [(pt i),(b,.val)] s1) λq2 s2=>ob (D7 .lss q1 (iI 0)) λx=>M9 x (some ([(iI 1)],s2)) (ob (D7 .lss q2 (iI 0)) λy=>M9 y (some ([(iI 1)],s2)) (ob (H5 s2 i) λc5=>ob (Ao c5 0 5) λv6=>ob (l7 0 v6.2.2 q1) λn7=>ob (V5 s2 v6.1 v6.2.1) λa8=>ob (a8.2[n7]?) λz=>og (a8.1==5)<|ob (D7 .neq (C8 0 z) (iI 6)) λw=>M9 w (some ([(iI 1)],s2)) (ob (D7 .eql q1 q2) λu=>G8 u (some ([(iI 1)],s2)) (oc (R.r Iu [(pt i),(q1,.val),(q2,.val)] s2) λq12 s12=>G8 q12 (some ([(iI 5)],s12)) (ob (H5 s12 i) λc13=>ob (Ao c13 0 5) λv14=>ob (l7 0 v14.2.2 q1) λn15=>ob (V5 s12 v14.1 v14.2.1) λa16=>ob (a16.2[n15]?) λv=>og (a16.1==5)<|og (I9 q2)<|ob (Kj 5 2 v [(q2,.val)]) λe18=>
 ob (H5 (s12.set v14.1 (E5.P9 v14.2.1 5 (a16.2.set n15 e18))) i) λc19=>ob (Ao c19 0 5) λv20=>ob (l7 0 v20.2.2 q1) λn21=>ob (V5 (s12.set v14.1 (E5.P9 v14.2.1 5 (a16.2.set n15 e18))) v20.1 v20.2.1) λa22=>ob (a22.2[n21]?) λt=>og (a22.1==5)<|oc (R.r KH [(pt i),(q2,.val),((C8 1 t),.val)] (s12.set v14.1 (E5.P9 v14.2.1 5 (a16.2.set n15 e18)))) λq24 s24=>some ([(iI 0)],s24)))) none) none) none):=H7 []
def nU:C9.r Ef [(.undef,(.ptr i 0)),(a,.val),(b,.val)] s=K_ C9 i a b s:=BL (s:=OA) func207
def Ud:=eR f208 MB Tv R [] (I4 f208 [(pt i),(a,.val),(b,.val)] s)
def jw:Ud R i a b s =
 (oc (R.r Y2 [(pt i),(a,.val)] s) λq1 s1=>M9 q1 (oc (R.r Y2 [(pt i),(b,.val)] s1) λq2 s2=>M9 q2 (oc (R.r EG [(pt i),(b,.val)] s2) λq3 s3=>oc (R.r Q7 [(pt i),(a,.val)] s3) λq4 s4=>ob (R.p Ca [q3,q4]) λx=>some ([x],s4)) (some ([(.bool false)],s2)) none) (some ([(.bool false)],s1)) none):=H7 []
def iQ:C9.r Iu [(.undef,(.ptr i 0)),(a,.val),(b,.val)] s=Ud C9 i a b s:=BL (s:=MB) func208
def OM:=eP f214 NK R [] (I4 f214 [(a,.val),(b,.val)] [])
def YC:OM R a b =
 (ob (R.p KW [a,b]) λx=>ob (D7 .geq x (iI 0)) λy=>some y):=H7 []
def Ws:C9.p Ca [a,b]=OM C9 a b:=CP func214
def RX:=eP f215 Jr R [] (I4 f215 [(a,.val),(b,.val)] [])
def EU:=hP f215 Jr R (pb 26) (ms 19 [(0,a),(1,b),(7,c),(8,d)] [] [] [])
def a_:RX R a b =
 (ob (O6 a) λx=>EU R a b x (iI 0)):=H7 []
def NI:EU R a b c d =
 (ob (D7 .lss d c) λy=>G8 y (ob (O0 1 a d) λx=>og (M8 x)<|ob (D7 .eql b x) λz=>G8 z (some d) (ob (D7 .add d (iI 1)) λw=>EU R a b c w)) (some (.int .i64 (-1)))):=L8 []
def Zb:C9.p KW [a,b]=RX C9 a b:=CP func215
end
end Go.Su
