/-
  Parts of the proof, merged: SuN4, SuN5, SuN6, SuN7, SuN8, SuN9, SuN10, SuN11, SuN12, SuN13, SuN14, SuN15, SuN16, SuN17, SuN18, SuN19, SuN20, SuN21, SuN22, SuN23, SuN24, SuN25, SuN26, SuN27, SuN28, SuN29, SuN30, SuN31, SuN32, SuN36, SuN37, SuN38, SuN33, SuN34, SuN35, SuN39, SuN40, SuN41, SuN42, SuN43, SuNw.
-/
import Derived.Test.YtfcklgngoefgmaaGreatQ3
set_option linter.unusedVariables false
set_option linter.unusedSimpArgs false
set_option linter.unusedSectionVars false
/-
 STORES: links, what a variable becomes; agreement comes to an end.
-/
open Bool renaming and_eq_true → z8q, not_eq_true' → y0q
open List renaming mem_cons_of_mem → z2q, mem_cons_self → z3q, getElem?_eq_getElem → z4q, getD_eq_getElem?_getD → z5q, mem_singleton → z6q, getElem_mem → z9q, length_eq_zero_iff → zaq, map_cons → zbq, mem_append → zcq, all_eq_true → zdq, mem_cons → zfq, sum_cons → zgq, map_congr_left → ziq, map_append → zjq, idxOf_lt_length_of_mem → zkq, mem_map → zmq, of_mem_zip → znq, map_map → zqq, mem_iff_getElem → zrq, length_map → zsq, getElem?_eq_some_iff → zuq, length_cons → zxq, mem_append_left → zyq, map_nil → zAq, getElem_map → zBq, not_mem_nil → zCq, zip_cons_cons → zDq, length_append → zEq, mem_append_right → zGq, mem_of_mem_tail → zHq, append_assoc → zJq, getElem_cons_zero → zKq, nil_append → zLq, length_nil → zMq, getElem?_map → zQq, getElem_zipWith → zSq, cons_append → zTq, length_zipWith → zUq, getElem_of_mem → zVq, mem_of_find?_eq_some → zWq, find?_cons → zXq, filter_congr → zZq, length_filter_le → y1q, mem_filter → y3q, nodup_nil → y6q, getElem_idxOf → y7q, zip_nil_left → y8q, nodup_append → ybq, ext_getElem → ycq, countP_cons → ydq, sum_nil → yeq, filter_map → yhq, foldl_cons → yiq
open Nat renaming lt_of_lt_of_le → z0q, le_refl → z1q, le_trans → z7q, add_mul → zeq, zero_le → zhq, le_add_right → zlq, le_of_eq → zoq, le_max_right → zpq, lt_or_ge → zvq, le_max_left → zwq, le_mul_of_pos_left → zzq, pow_le_pow_right → zFq, pow_le_pow_left → zIq, mul_le_mul → zNq, exists_eq_succ_of_ne_zero → zOq, le_of_lt → zPq, exists_eq_add_of_le → zYq, mul_le_mul_right → y2q, add_le_add → y4q, le_succ → y5q, not_lt → y9q, min_le_right → yaq, le_zero → yfq, mul_pow → ygq
open Option renaming map_some → ztq, map_none → zRq
namespace Go.Su
set_option linter.defProp false
structure Y3(S S':E9):Prop where
 le:S.l.length<=S'.l.length
 mx:S'.mx=S.mx
 cnt:S.cnt<=S'.cnt
 J6:S.J6<=S'.J6
variable (S:E9)
def Y3.refl:Y3 S S:=⟨z1q _,rfl,z1q _,z1q _⟩
def Y3.trans{S T U:E9}(h:Y3 S T)(k:Y3 T U):Y3 S U:=⟨z7q h.le k.le,k.mx.trans h.mx,z7q h.cnt k.cnt,z7q h.J6 k.J6⟩
def Y3.tick:Y3 S S.tick:=⟨z1q _,rfl,z1q _,y5q _⟩
def Y3.lower(n A9:Nat):Y3 S (S.lower n A9):=⟨zoq (JC ..).symm,rfl,z1q _,y5q _⟩
def MU(d:Nd):Bool:=d.E8==6&&d.link.isNone
def E9.uv:Nat:=S.l.countP MU
def A8b{l l':List Nd}(hl:l'.length=l.length)(h:∀(n:Nat)(d d':Nd),l[n]?=some d->l'[n]?=some d'->MU d'=MU d):l'.countP MU=l.countP MU:=by
 have:l'.map MU=l.map MU:=by
  refine ycq (by simp[hl]) λi a c=>?_;rw[zBq,zBq];have a:i<l'.length:=by simpa using a
  have c:i<l.length:=by simpa using c
  exact h i _ _ (z4q c) (z4q a)
 have e:∀l:List Nd,l.countP MU=(l.map MU).countP id:=λl=>by rw[List.countP_map];rfl
 rw[e,e,this]
def A0I{f:Nd->Nd}:∀{l:List Nd}{r:Nat}{d:Nd},l[r]?=some d->MU d=true->MU (f d)=false->(l.modify r f).countP MU+1=l.countP MU
 |[],r,d,h,_,_=>by simp at h
 |e::l,0,d,h,h1,h2=>by simp only[List.getElem?_cons_zero,D8]at h;subst h;simp[List.modify,h1,h2]
 |e::l,r+1,d,h,h1,h2=>by rw[List.getElem?_cons_succ]at h;have:=A0I (l:=l) h h1 h2;rw[List.modify_succ_cons,ydq,ydq];omega
theorem B7x:S.tick.uv=S.uv:=rfl
theorem A0e(n A9:Nat):(S.lower n A9).uv=S.uv:=A8b (JC ..) λk d d' h h'=>by simp only[E9.lower]at h';rw[Ky,h]at h';simp only[ztq,D8]at h';subst h';split<;>rfl
variable {S:E9}
def B5v{r t:Nat}{d:Nd}(h:S.l[r]?=some d)(h6:d.E8=6)(h0:d.link=none):(S.Ay r t).uv+1=S.uv :=A0I h (by simp[MU,h6,h0]) (by simp[MU])
structure B7B(S S':E9)(e:Nat):Prop where
 ok:S'.Ok
 len:S'.l.length=S.l.length
 mx:S'.mx=S.mx
 cnt:S'.cnt=S.cnt
 J6:S.J6<=S'.J6
 B43:S'.J6<=S.J6+2
 uv:e=0->S'.uv<S.uv
 at_:∀n,S'.F9 n=S.F9 n/\S'.I6 n=S.I6 n
def B34(S:E9)(m A9 n:Nat):(S.lower m A9).F9 n=S.F9 n/\(S.lower m A9).I6 n=S.I6 n:=by
 simp only[E9.F9,E9.I6,E9.lower];rw[Ky];cases S.l[n]? with
 |none=>exact⟨rfl,rfl⟩
 |some d=>simp only[ztq];split<;>exact⟨rfl,rfl⟩
def B33(S:E9)(r t n:Nat):(S.Ay r t).F9 n=S.F9 n/\(S.Ay r t).I6 n=S.I6 n:=by
 simp only[E9.F9,E9.I6];rw[Er];cases S.l[n]? with
 |none=>exact⟨rfl,rfl⟩
 |some d=>simp only[ztq];split<;>exact⟨rfl,rfl⟩
variable {n:Nat}
def TQ{v:Nat}(ok:S.Ok)(hv:v<S.l.length)(hn:n<S.l.length)(h6:S.F9 (S.root v)=6)(hw:S.root v∉S.roots n):(S.tick.Ay (S.root v) (S.root n)).Ok:=by obtain⟨d,d1,d2,-,-,d5,-⟩:=ok.nd hv;exact ok.tick.Ay (S:=S.tick) d1 d2 (by rw[d5,h6]) (ok.I8 hn).self.tick λhx=>hw ((ok.CS hn).2 hx)
def ZZ(ok:S.Ok){v:Nat}(hv:v<S.l.length)(hn:n<S.l.length):B7B S (S.link v n).1 (S.link v n).2:=by
 unfold E9.link;split
 ·exact⟨ok,rfl,rfl,rfl,z1q _,by simp only;omega,λh=>by simp at h,λn=>⟨rfl,rfl⟩⟩
 ·rename_i h;split
  ·exact⟨ok.tick,rfl,rfl,rfl,y5q _,by simp only[E9.tick];omega,λh=>by simp at h,λn=>⟨rfl,rfl⟩⟩
  ·rename_i hw;have h6:S.F9 (S.root v)=6:=Classical.not_not.1 λg=>h (.inl g);have uj:=TQ ok hv hn h6 hw;obtain⟨d,d1,d2,-,-,d5,d6⟩:=ok.nd hv;refine⟨uj.lower _ _,?_,rfl,rfl,?_,?_,λ_=>?_,λm=>?_⟩
   ·simp[E9.lower,JC,E9.Ay,E9.tick]
   ·simp only[E9.lower,E9.Ay,E9.tick];omega
   ·simp only[E9.lower,E9.Ay,E9.tick];omega
   ·simp only
    rw[A0e];have:=B5v (S:=S.tick) (t:=S.root n) d1 (by rw[d5,h6]) d2;rw[B7x]at this;omega
   ·simp only
    obtain⟨a1,a2⟩:=B34 (S.tick.Ay (S.root v) (S.root n)) (S.root n) (S.X4 (S.root v)) m;obtain⟨c1,c2⟩:=B33 S.tick (S.root v) (S.root n) m;exact⟨a1.trans c1,a2.trans c2⟩
def TP(ok:S.Ok){v x:Nat}(hv:v<S.l.length)(hn:n<S.l.length)(hx:x<S.l.length)(hne:S.root x≠S.root v):(S.link v n).1.root x=S.root x:=by
 unfold E9.link;split
 ·rfl
 ·rename_i h;split
  ·exact(ok.I8 hx).tick.GR
  ·rename_i hw;have h6:S.F9 (S.root v)=6:=Classical.not_not.1 λg=>h (.inl g);have uj:=TQ ok hv hn h6 hw;obtain⟨d,d1,d2,-,-,d5,d6⟩:=ok.nd hv;have h1:X6 S.tick x (S.root x):=(ok.root hx).like (V6.tick S);have h2:X6 (S.tick.Ay (S.root v) (S.root n)) x (S.root x):=X6.link (S:=S.tick) d1 d2 h1 hne;have h3:=h2.like (V6.lower _ (S.root n) (S.X4 (S.root v)));have ok3:=uj.lower (S.root n) (S.X4 (S.root v));exact h3.eq ⟨_,ok3.I8 h3.lt⟩
def E9.Ok.A9(ok:S.Ok)(hn:n<S.l.length):S.X4 n<2 ^ 31:=by have:=z4q hn;rw[nW this];exact(ok.ki _ _ this).2.2.2.1
def E9.Ok.Ou(ok:S.Ok){x:Nat}(hn:n<S.l.length)(hx:x∈S.I6 (S.root n)):x<S.l.length:=by obtain⟨d,d1,d2,d3,d4,d5⟩:=(ok.I8 hn).nd;have hx:x∈S.I6 (S.I8 n).r:=hx;rw[Cu d1]at hx;obtain⟨j,hj,rfl⟩:=zrq.1 hx;exact(d5 j hj (by omega)).lt
def E9.Ok.YM(ok:S.Ok)(hn:n<S.l.length):(S.I6 n).length=Ml (S.F9 n):=by have:=z4q hn;rw[Cu this,CB this];exact(ok.ki _ _ this).1
def E9.Ok.knd(ok:S.Ok)(hn:n<S.l.length):1<=S.F9 n/\S.F9 n<=9/\(S.F9 n<=5->n+1=S.F9 n):=by have:=z4q hn;rw[CB this];have:=ok.ki _ _ this;exact⟨this.2.1,this.2.2.1,this.2.2.2.2⟩
def VN(ok:S.Ok){A9:Nat}(hl:A9<2 ^ 31):(S.var A9).1.Ok/\Ct S (S.var A9).1/\(S.var A9).1.J6=S.J6/\(S.var A9).2.1<(S.var A9).1.l.length/\((S.var A9).2.2=0->(S.var A9).1.cnt=S.cnt+1)/\S.cnt<=(S.var A9).1.cnt:=by
 unfold E9.var;have:=ok.cm;have:=ok.five;split
 ·exact⟨ok,Ct.refl S,rfl,by simp only;omega,λh=>by simp at h,z1q _⟩
 ·exact⟨ok.add (by omega) rfl (by omega) (by omega) hl (by simp),Ct.add _ _,rfl,by simp[E9.add],λ_=>rfl,by simp[E9.add]⟩
def MW(ok:S.Ok){k x y:Nat}(hk:k=7\/k=8\/k=9)(hx:x<S.l.length)(hy:k≠8->y<S.l.length):(S.make k x y).1.Ok/\Ct S (S.make k x y).1/\(S.make k x y).1.J6=S.J6/\(S.make k x y).2.1<(S.make k x y).1.l.length/\((S.make k x y).2.2=0->(S.make k x y).1.cnt=S.cnt+1)/\S.cnt<=(S.make k x y).1.cnt:=by
 unfold E9.make;have:=ok.cm;have:=ok.five;split
 ·exact⟨ok,Ct.refl S,rfl,by simp only;omega,λh=>by simp at h,z1q _⟩
 ·refine⟨ok.add (by omega) ?_ (by omega) (by omega) (by omega) ?_,Ct.add _ _,rfl,by simp[E9.add],λ_=>rfl,by simp[E9.add]⟩
  ·rcases hk with rfl | rfl | rfl<;>rfl
  ·intro z hz;split at hz
   ·rw[z6q.1 hz];exact hx
   ·rename_i h8;simp only[zfq,zCq,or_false]at hz;rcases hz with rfl | rfl
    ·exact hx
    ·exact hy h8
def LJ{A9:Nat}(hl:A9<2 ^ 31):∀(k:Nat)(S:E9),S.Ok->(E9.fresh A9 k S).1.Ok/\Ct S (E9.fresh A9 k S).1/\(E9.fresh A9 k S).1.J6=S.J6/\S.cnt<=(E9.fresh A9 k S).1.cnt/\(∀x∈(E9.fresh A9 k S).2.1,x<(E9.fresh A9 k S).1.l.length)/\((E9.fresh A9 k S).2.2=0->(E9.fresh A9 k S).2.1.length=k)
 |0,S,ok=>⟨ok,Ct.refl S,rfl,z1q _,by simp[E9.fresh],λ_=>rfl⟩
 |k+1,S,ok=>by
   obtain⟨a1,a2,a3,a4,a5,a6⟩:=VN ok hl;rw[E9.fresh];split
   ·obtain⟨c1,c2,c3,c4,c5,c6⟩:=LJ hl k _ a1;refine⟨c1,a2.trans c2,c3.trans a3,z7q a6 c4,λx hx=>?_,λh=>by simp[c6 h]⟩;rcases zfq.1 hx with rfl | hx
    ·exact z0q a4 c2.le
    ·exact c5 x hx
   ·exact⟨a1,a2,a3,a6,by simp,λh=>by rename_i g;exact absurd h g⟩
def Ct.root{T:E9}(g:Ct S T)(ok:S.Ok)(hn:n<S.l.length):T.root n=S.root n:=((ok.I8 hn).like g.like).GR
def Ct.I8{T:E9}(g:Ct S T)(ok:S.Ok)(hn:n<S.l.length):T.I8 n=S.I8 n:=((ok.I8 hn).like g.like).eq
def V6.at_{T:E9}(L:V6 S T)(hn:n<S.l.length):T.F9 n=S.F9 n/\T.I6 n=S.I6 n:=by have:=z4q hn;obtain⟨d',a,b,-,c⟩:=L _ _ this;rw[CB this,Cu this,CB a,Cu a];exact⟨b,c⟩
structure B9f(S:E9)(w:Nat)(q:E9×Option Nat×Nat):Prop where
 ok:q.1.Ok
 ext:Y3 S q.1
 J6:q.1.J6<=S.J6+5
 none:q.2.2=0->q.2.1=none->q.1.cnt=S.cnt/\q.1.uv<S.uv
 some:∀m,q.2.2=0->q.2.1=some m->m<q.1.l.length/\S.cnt<q.1.cnt/\q.1.F9 (q.1.root m)=q.1.F9 (q.1.root w)/\q.1.F9 (q.1.root w)=S.F9 w
def Ke(ok:S.Ok){v w:Nat}(hv:v<S.l.length)(hw:w<S.l.length)(rv:S.root v=v)(rw_:S.root w=w)(hne:v≠w)(yI:w≠4)(h6:S.F9 v=6):B9f S w (S.become v w):=by
 unfold E9.become;split
 ·have L:=ZZ ok hv hw;exact⟨L.ok,⟨zoq L.len.symm,L.mx,zoq L.cnt.symm,L.J6⟩,by have:=L.B43;simp only;omega,λh _=>⟨L.cnt,L.uv h⟩,λm _ h=>by cases h⟩
 ·rename_i k6;split
  ·have L:=ZZ ok.tick (show v<S.tick.l.length from hv) (show w<S.tick.l.length from hw);refine⟨L.ok,⟨zoq L.len.symm,L.mx,zoq L.cnt.symm,?_⟩,?_,λh _=>⟨L.cnt,L.uv h⟩,λm _ h=>by cases h⟩
   ·have:=L.J6;simp only[E9.tick]at this ⊢;omega
   ·have:=L.B43;simp only[E9.tick]at this ⊢;omega
  ·rename_i Q9;have Q9:4∈S.roots w:=Classical.not_not.1 Q9;split
   ·refine⟨ok.tick.tick,(Y3.tick S).trans (Y3.tick _),by simp only[E9.tick];omega,λh=>by simp at h,λm h=>by simp at h⟩
   ·rename_i MP;have TS:=ok.tick.tick;obtain⟨f1,f2,f3,f4,f5,f6⟩:=LJ (ok.A9 hv) (S.I6 w).length _ TS;simp only;generalize E9.fresh (S.X4 v) (S.I6 w).length S.tick.tick=q at f1 f2 f3 f4 f5 f6 ⊢;have e1:Y3 S q.1:=⟨f2.le,f2.mx,f4,by rw[f3];simp only[E9.tick];omega⟩;have er:q.1.J6=S.J6+2:=by rw[f3];rfl
    have e0:q.1.cnt<=q.1.cnt:=z1q _;split
    ·rename_i g;exact⟨f1,e1,by simp only;omega,λh=>absurd h g,λm h=>absurd h g⟩
    ·rename_i g;have g0:q.2.2=0:=Classical.not_not.1 g;have ql:=f6 g0;have kw:=ok.knd hw;have kn:=ok.YM hw;have w4:S.F9 w≠5->S.F9 w=7\/S.F9 w=8\/S.F9 w=9\/S.F9 w<=4:=λh=>by omega
     by_cases A4Z:S.F9 w<=5
     ·have h0:(S.I6 w).length=0:=by rw[kn];unfold Ml;rw[A7 (by omega),A7 (by omega)]
      have hu:=ok.I8 hw;obtain⟨d,d1,-,d3,d4,-⟩:=hu.nd;have hr:(S.I8 w).r=w:=rw_;rw[hr]at d1;have hk:(S.I8 w).D5=[]:=by
       have:d.D5.length=0:=by rw[<- Cu d1];exact h0
       exact zaq.1 (by omega)
      have h4:=(ok.CS hw).1 Q9;rcases NT.BZ.1 h4 with e | ⟨u,hu,-⟩
      ·exact absurd (show w=4 by rw[<- hr];exact e.symm) yI
      ·rw[hk]at hu;cases hu
     ·have Yh:S.F9 w=7\/S.F9 w=8\/S.F9 w=9:=by omega
      have p0:q.2.1.getD 0 0<q.1.l.length:=by
       have:0<q.2.1.length:=by rw[ql,kn];unfold Ml;split<;>(try split)<;>omega
       rw[z5q,z4q this];exact f5 _ (z9q this)
      have p1:S.F9 w≠8->q.2.1.getD 1 0<q.1.l.length:=by
       intro h8;have:1<q.2.1.length:=by rw[ql,kn];unfold Ml;rw[A7 h8,C9 (by omega)];omega
       rw[z5q,z4q this];exact f5 _ (z9q this)
      obtain⟨m1,m2,m3,m4,m5,m6⟩:=MW f1 Yh p0 p1;have mm:((q.1.make (S.F9 w) (q.2.1.getD 0 0) (q.2.1.getD 1 0)).2.2=0->(q.1.make (S.F9 w) (q.2.1.getD 0 0) (q.2.1.getD 1 0)).2.1=q.1.l.length/\(q.1.make (S.F9 w) (q.2.1.getD 0 0) (q.2.1.getD 1 0)).1.l[q.1.l.length]?=Option.some ⟨S.F9 w,0,Option.none,if S.F9 w=8 then[q.2.1.getD 0 0]else[q.2.1.getD 0 0,q.2.1.getD 1 0]⟩):=by
       unfold E9.make;split
       ·intro h;simp at h
       ·intro _;exact⟨rfl,by simp[E9.add]⟩
      generalize q.1.make (S.F9 w) (q.2.1.getD 0 0) (q.2.1.getD 1 0)=z at m1 m2 m3 m4 m5 m6 mm ⊢;have ez:Y3 S z.1:=e1.trans ⟨m2.le,m2.mx,m6,m2.J6⟩;split
      ·rename_i gz;exact⟨m1,ez,by simp only;omega,λh=>absurd h gz,λm h=>absurd h gz⟩
      ·rename_i gz;have z0:z.2.2=0:=Classical.not_not.1 gz;obtain⟨z1,z2⟩:=mm z0;have hvz:v<z.1.l.length:=z0q hv ez.le;have L:=ZZ m1 hvz m4;refine⟨L.ok,ez.trans ⟨zoq L.len.symm,L.mx,zoq L.cnt.symm,L.J6⟩,by have:=L.B43;simp only;omega,λ_ h=>(by cases h),λm h0 hm=>?_⟩;simp only[D8]at hm;subst hm;have c5:=m5 z0;have rm:z.1.root z.2.1=z.2.1:=by rw[z1];exact(X6.here z2 rfl).eq (m1.wf _ (by rw[<- z1];exact m4))
       have g1:Ct S.tick.tick z.1:=f2.trans m2;have hv2:v<S.tick.tick.l.length:=hv;have hw2:w<S.tick.tick.l.length:=hw;have r2:∀x,x<S.l.length->S.tick.tick.root x=S.root x:=λx hx=>(ok.I8 hx).tick.tick.GR;have rvz:z.1.root v=v:=by rw[g1.root TS hv2,r2 v hv,rv]
       have rwz:z.1.root w=w:=by rw[g1.root TS hw2,r2 w hw,rw_]
       have zv:z.2.1≠v:=by rw[z1];have:=e1.le;omega
       have a1:=TP m1 hvz m4 m4 (by rw[rm,rvz];exact zv);have hwz:w<z.1.l.length:=z0q hw ez.le;have a2:=TP m1 hvz m4 hwz (by rw[rwz,rvz];exact Ne.symm hne);rw[a1,a2,rm,rwz,(L.at_ _).1,(L.at_ _).1,z1,CB z2];have:=(V6.at_ g1.like hw2).1;rw[this];have n1:=L.len;have n2:=L.cnt;rw[z1]at n1 n2 m4;refine⟨by rw[n1];exact m4,?_,rfl,rfl⟩;simp only;rw[n2,c5];have:=e1.cnt;omega
noncomputable def wt(S:E9)(l:List (Nat×Nat)):Nat:=(l.map λp=>(S.I8 p.1).big).sum
def B7y{T:E9}(g:V6 S T)(ok:S.Ok){l:List (Nat×Nat)}(hl:∀p∈l,p.1<S.l.length):wt T l=wt S l:=by unfold wt;congr 1;refine ziq λp hp=>?_;rw[((ok.I8 (hl p hp)).like g).eq]
def B6i(t:NT):0<t.big:=by cases t;rw[NT.big];omega
def B3P{S:E9}(ok:S.Ok):∀(ks:List Nat)(ts:List NT)(js:List Nat),ks.length=ts.length->(∀(i:Nat)(h:i<ks.length)(h':i<ts.length),U2 S ks[i] ts[i])->wt S (ks.zip js)<=NT.y_ ts
 |[],_,js,_,_=>by simp[wt]
 |k::ks,[],js,h,_=>by simp at h
 |k::ks,t::ts,[],_,_=>by simp[wt]
 |k::ks,t::ts,j::js,h,hu=>by
   have h1:=hu 0 (by simp) (by simp);simp only[zKq]at h1;have h2:=B3P ok ks ts js (by simpa using h) λi a c=>by have:=hu (i+1) (by simp;omega) (by simp;omega);simpa using this
   rw[NT.y_];simp only[wt,zDq,zbq,zgq,h1.eq]at h2 ⊢;omega
theorem X5(f:Nat)(S:E9)(p:Nat×Nat)(rest:List (Nat×Nat)):E9.P7 (f+1) S (p::rest) =
 if S.root p.1=S.root p.2 then E9.P7 f S rest
 else if S.root p.1=4 then E9.P7 f (S.lower (S.root p.2) 0) rest
 else if S.root p.2=4 then E9.P7 f (S.lower (S.root p.1) 0) rest
 else if S.F9 (S.root p.1)=6 then
  if (S.become (S.root p.1) (S.root p.2)).2.2≠0 then some ((S.become (S.root p.1) (S.root p.2)).1,0,0,(S.become (S.root p.1) (S.root p.2)).2.2)
  else match (S.become (S.root p.1) (S.root p.2)).2.1 with
   |none=>E9.P7 f (S.become (S.root p.1) (S.root p.2)).1 rest
   |some m=>E9.P7 f (S.become (S.root p.1) (S.root p.2)).1 (((S.become (S.root p.1) (S.root p.2)).1.I6 ((S.become (S.root p.1) (S.root p.2)).1.root m)).zip ((S.become (S.root p.1) (S.root p.2)).1.I6 ((S.become (S.root p.1) (S.root p.2)).1.root (S.root p.2)))++rest)
 else if S.F9 (S.root p.2)=6 then
  if (S.become (S.root p.2) (S.root p.1)).2.2≠0 then some ((S.become (S.root p.2) (S.root p.1)).1,0,0,(S.become (S.root p.2) (S.root p.1)).2.2)
  else match (S.become (S.root p.2) (S.root p.1)).2.1 with
   |none=>E9.P7 f (S.become (S.root p.2) (S.root p.1)).1 rest
   |some m=>E9.P7 f (S.become (S.root p.2) (S.root p.1)).1 (((S.become (S.root p.2) (S.root p.1)).1.I6 ((S.become (S.root p.2) (S.root p.1)).1.root (S.root p.1))).zip ((S.become (S.root p.2) (S.root p.1)).1.I6 ((S.become (S.root p.2) (S.root p.1)).1.root m))++rest)
 else if S.F9 (S.root p.1)≠S.F9 (S.root p.2)then some (S,S.F9 (S.root p.1),S.F9 (S.root p.2),4)
 else E9.P7 f S ((S.I6 (S.root p.1)).zip (S.I6 (S.root p.2))++rest):=by rw[E9.P7];rfl
end Go.Su

/-
 AGREEMENT, step by step; how high a node is.
-/
namespace Go.Su
set_option linter.defProp false
structure BH(S F:E9):Prop where
 le:S.l.length<=F.l.length
 at_:∀n,n<S.l.length->F.F9 n=S.F9 n/\F.I6 n=S.I6 n
 root:∀n,n<S.l.length->S.F9 (S.root n)≠6->F.root n=S.root n
 same:∀n,n<S.l.length->F.root (S.root n)=F.root n
variable {S:E9}
def BH.refl(ok:S.Ok):BH S S:=⟨z1q _,λ_ _=>⟨rfl,rfl⟩,λ_ _ _=>rfl,λn h=>ok.rr h⟩
variable {F:E9}
def BH.trans{T:E9}(ok:S.Ok)(h:BH S T)(k:BH T F):BH S F where
 le:=z7q h.le k.le
 at_ n hn:=by have a:=h.at_ n hn;have c:=k.at_ n (z0q hn h.le);exact⟨c.1.trans a.1,c.2.trans a.2⟩
 root n hn h6:=by have a:=h.root n hn h6;rw[k.root n (z0q hn h.le) (by rw[a,(h.at_ _ (ok.Fu hn)).1];exact h6),a]
 same n hn:=by have r:=z0q (ok.Fu hn) h.le;rw[<- k.same _ r,h.same n hn,k.same _ (z0q hn h.le)]
def BH.like{T:E9}(ok:S.Ok)(L:V6 S T)(le:S.l.length<=T.l.length):BH S T :=⟨le,λn hn=>L.at_ hn,λn hn _=>((ok.I8 hn).like L).GR,λn hn=>by have:T.root (S.I8 n).r=(S.I8 n).r:=((ok.I8 hn).self.like L).GR;rw[((ok.I8 hn).like L).GR];exact this⟩
def BH.U3{T:E9}(ok:S.Ok)(g:Ct S T):BH S T:=.like ok g.like g.le
def nX(ok:S.Ok){v n x:Nat}(hv:v<S.l.length)(hn:n<S.l.length)(hx:x<S.l.length)(he:S.root x=S.root v)(h0:(S.link v n).2=0):(S.link v n).1.root x=S.root n:=by
 unfold E9.link at h0 ⊢;split
 ·rename_i h;rw[C9 h]at h0;simp at h0
 ·rename_i h;rw[A7 h]at h0;split
  ·rename_i hw;rw[C9 hw]at h0;simp at h0
  ·rename_i hw;have h6:S.F9 (S.root v)=6:=Classical.not_not.1 λg=>h (.inl g);have uj:=TQ ok hv hn h6 hw;obtain⟨d,d1,d2,-,-,d5,d6⟩:=ok.nd hv;have h2:=X6.B5R (S:=S.tick) (to:=S.root n) d1 d2 (ok.I8 hn).self.tick (λg=>hw ((ok.CS hn).2 g)) ((ok.root hx).like (V6.tick S)) he;have h3:=h2.like (V6.lower _ (S.root n) (S.X4 (S.root v)));have ok3:=uj.lower (S.root n) (S.X4 (S.root v));exact h3.eq ⟨_,ok3.I8 h3.lt⟩
def BH.link(ok:S.Ok){v n:Nat}(hv:v<S.l.length)(hn:n<S.l.length)(h6:S.F9 (S.root v)=6):BH S (S.link v n).1:=by
 have L:=ZZ ok hv hn;refine⟨zoq L.len.symm,λx _=>L.at_ x,λx hx hk=>TP ok hv hn hx λe=>hk (by rw[e];exact h6),λx hx=>?_⟩;by_cases e:S.root x=S.root v
 ·by_cases h0:(S.link v n).2=0
  ·rw[nX ok hv hn hx e h0,nX ok hv hn (ok.Fu hx) (by rw[ok.rr hx];exact e) h0]
  ·have:(S.link v n).1=S\/(S.link v n).1=S.tick:=by
    unfold E9.link at h0 ⊢;split
    ·exact .inl rfl
    ·rename_i h;rw[A7 h]at h0;split
     ·exact .inr rfl
     ·rename_i h2;rw[A7 h2]at h0;exact absurd rfl h0
   rcases this with g | g
   ·rw[g];exact ok.rr hx
   ·rw[g];exact(BH.like ok (V6.tick S) (z1q _)).same x hx
 ·rw[TP ok hv hn hx e,TP ok hv hn (ok.Fu hx) (by rw[ok.rr hx];exact e),ok.rr hx]
def BH.become(ok:S.Ok){v w:Nat}(hv:v<S.l.length)(hw:w<S.l.length)(rv:S.root v=v)(rw_:S.root w=w)(hne:v≠w)(yI:w≠4)(h6:S.F9 v=6):BH S (S.become v w).1/\∀m,(S.become v w).2.2=0->(S.become v w).2.1=some m->(S.become v w).1.root v=(S.become v w).1.root m:=by
 have h6':S.F9 (S.root v)=6:=by rw[rv];exact h6
 have B:=Ke ok hv hw rv rw_ hne yI h6;unfold E9.become at B ⊢;split
 ·exact⟨BH.link ok hv hw h6',λm _ h=>by cases h⟩
 ·rename_i k6;rw[A7 k6]at B;have t1:=BH.like ok (V6.tick S) (z1q _);split
  ·refine⟨t1.trans ok (BH.link ok.tick hv hw ?_),λm _ h=>by cases h⟩;have:S.tick.root v=S.root v:=(ok.I8 hv).tick.GR;rw[this];exact h6'
  ·rename_i Q9;rw[A7 Q9]at B;split
   ·exact⟨t1.trans ok (BH.like ok.tick (V6.tick _) (z1q _)),λm h=>by simp at h⟩
   ·rename_i MP;rw[A7 MP]at B;have TS:=ok.tick.tick;have t2:=t1.trans ok (BH.like ok.tick (V6.tick _) (z1q _));obtain⟨f1,f2,f3,f4,f5,f6⟩:=LJ (ok.A9 hv) (S.I6 w).length _ TS;simp only at B ⊢;generalize E9.fresh (S.X4 v) (S.I6 w).length S.tick.tick=q at f1 f2 f3 f4 f5 f6 B ⊢;have t3:=t2.trans ok (BH.U3 TS f2);split
    ·rename_i g;exact⟨t3,λm h=>absurd h g⟩
    ·rename_i g;rw[A7 g]at B;have gz:Ct q.1 (q.1.make (S.F9 w) (q.2.1.getD 0 0) (q.2.1.getD 1 0)).1:=by
      unfold E9.make;split
      ·exact Ct.refl _
      ·exact Ct.add _ _
     split
     ·exact⟨t3.trans ok (BH.U3 f1 gz),λm h=>by rename_i gg;exact absurd h gg⟩
     ·rename_i gg;rw[A7 gg]at B;have g0:q.2.2=0:=Classical.not_not.1 g;have ql:=f6 g0;have kw:=ok.knd hw;have kn:=ok.YM hw;have Yh:S.F9 w=7\/S.F9 w=8\/S.F9 w=9:=by
       by_cases A4Z:S.F9 w<=5
       ·exfalso;have h0:(S.I6 w).length=0:=by rw[kn];unfold Ml;rw[A7 (by omega),A7 (by omega)]
        obtain⟨d,d1,-,d3,d4,-⟩:=(ok.I8 hw).nd;have hr:(S.I8 w).r=w:=rw_;rw[hr]at d1;have hk:(S.I8 w).D5=[]:=by
         have:d.D5.length=0:=by rw[<- Cu d1];exact h0
         exact zaq.1 (by omega)
        rcases NT.BZ.1 ((ok.CS hw).1 (Classical.not_not.1 Q9))with e | ⟨u,hu,-⟩
        ·exact absurd (show w=4 by rw[<- hr];exact e.symm) yI
        ·rw[hk]at hu;cases hu
       ·omega
      have p0:q.2.1.getD 0 0<q.1.l.length:=by
       have:0<q.2.1.length:=by rw[ql,kn];unfold Ml;split<;>(try split)<;>omega
       rw[z5q,z4q this];exact f5 _ (z9q this)
      have p1:S.F9 w≠8->q.2.1.getD 1 0<q.1.l.length:=by
       intro h8;have:1<q.2.1.length:=by rw[ql,kn];unfold Ml;rw[A7 h8,C9 (by omega)];omega
       rw[z5q,z4q this];exact f5 _ (z9q this)
      obtain⟨m1,m2,m3,m4,m5,m6⟩:=MW f1 Yh p0 p1;generalize q.1.make (S.F9 w) (q.2.1.getD 0 0) (q.2.1.getD 1 0)=z at m1 m2 m3 m4 m5 m6 gg gz B ⊢;have t4:=t3.trans ok (BH.U3 f1 gz);have hvz:=z0q hv t4.le;have rvz:z.1.root v=v:=by rw[m2.root f1 (z0q hv t3.le),f2.root TS hv];have:S.tick.tick.root v=S.root v:=(ok.I8 hv).tick.tick.GR;rw[this,rv]
      have kvz:z.1.F9 (z.1.root v)=6:=by rw[rvz,(t4.at_ v hv).1];exact h6
      refine⟨t4.trans ok (BH.link m1 hvz m4 kvz),λm h0 hm=>?_⟩;simp only[D8]at hm;subst hm;have h0:(z.1.link v z.2.1).2=0:=h0;rw[nX m1 hvz m4 hvz rfl h0];by_cases e:z.1.root z.2.1=z.1.root v
      ·exfalso;unfold E9.link at h0;rw[C9 (.inr e.symm)]at h0;simp at h0
      ·exact(TP m1 hvz m4 m4 e).symm
structure Goes(S T:E9)(p:Nat×Nat)(rest l:List (Nat×Nat)):Prop where
 ok:T.Ok
 ext:Y3 S T
 st:BH S T
 lt:∀q∈l,q.1<T.l.length/\q.2<T.l.length
 m:T.mx-T.cnt<S.mx-S.cnt\/(T.cnt=S.cnt/\(T.uv<S.uv\/(T.uv=S.uv/\wt T l<wt S (p::rest))))
 l:l=rest\/∃x y,l=(T.I6 (T.root x)).zip (T.I6 (T.root y))++rest/\T.root p.1=T.root x/\x<T.l.length/\T.F9 (T.root x)≠6
variable {rest:List (Nat×Nat)}
def agree_step(ok:S.Ok){p:Nat×Nat}(hl:∀q∈p::rest,q.1<S.l.length/\q.2<S.l.length):
 (∃q,(∀f,E9.P7 (f+1) S (p::rest)=some q)/\q.1.Ok/\Y3 S q.1/\BH S q.1)\/∃T l,(∀f,E9.P7 (f+1) S (p::rest)=E9.P7 f T l)/\Goes S T p rest l:=by
 obtain⟨h1,h2⟩:=hl p (z3q ..);have Aw:∀q∈rest,q.1<S.l.length/\q.2<S.l.length:=λq hq=>hl q (z2q _ hq);have hw:wt S rest<wt S (p::rest):=by have:=B6i (S.I8 p.1);simp only[wt,zbq,zgq];omega
 have x1:=ok.Fu h1;have x2:=ok.Fu h2;have qP:∀{T:E9},Y3 S T->∀q∈rest,q.1<T.l.length/\q.2<T.l.length:=λe q hq=>⟨z0q (Aw q hq).1 e.le,z0q (Aw q hq).2 e.le⟩;have low:∀n,Goes S (S.lower n 0) p rest rest:=λn=>⟨ok.lower _ _,Y3.lower S _ _,.like ok (V6.lower S _ _) (zoq (JC ..).symm),qP (Y3.lower S _ _),.inr ⟨rfl,.inr ⟨A0e ..,by rw[B7y (V6.lower S _ _) ok λq hq=>(Aw q hq).1];exact hw⟩⟩,.inl rfl⟩;have D5:∀(T:E9)(x y:Nat),T.Ok->Y3 S T->x<T.l.length->y<T.l.length->∀q∈(T.I6 (T.root x)).zip (T.I6 (T.root y))++rest,q.1<T.l.length/\q.2<T.l.length:=by
  intro T x y okT e hx hy q hq;rcases zcq.1 hq with hq | hq
  ·exact⟨okT.Ou hx (znq hq).1,okT.Ou hy (znq hq).2⟩
  ·exact qP e q hq
 by_cases c1:S.root p.1=S.root p.2
 ·exact .inr ⟨S,rest,λf=>by rw[X5,C9 c1],ok,Y3.refl S,BH.refl ok,Aw,.inr ⟨rfl,.inr ⟨rfl,hw⟩⟩,.inl rfl⟩
 by_cases c2:S.root p.1=4
 ·exact .inr ⟨_,rest,λf=>by rw[X5,A7 c1,C9 c2],low _⟩
 by_cases c3:S.root p.2=4
 ·exact .inr ⟨_,rest,λf=>by rw[X5,A7 c1,A7 c2,C9 c3],low _⟩
 by_cases c4:S.F9 (S.root p.1)=6
 ·have B:=Ke ok x1 x2 (ok.rr h1) (ok.rr h2) c1 c3 c4;obtain⟨B2,B3⟩:=BH.become ok x1 x2 (ok.rr h1) (ok.rr h2) c1 c3 c4;by_cases e0:(S.become (S.root p.1) (S.root p.2)).2.2=0
  ·cases hm:(S.become (S.root p.1) (S.root p.2)).2.1 with
   |none=>obtain⟨b1,b2⟩:=B.none e0 hm;exact .inr ⟨_,rest,λf=>by rw[X5,A7 c1,A7 c2,A7 c3,C9 c4,A7 (λg=>g e0),hm],B.ok,B.ext,B2,qP B.ext,.inr ⟨b1,.inl b2⟩,.inl rfl⟩
   |some m=>
     obtain⟨b1,b2,b3,b4⟩:=B.some m e0 hm;have:=B.ok.cm;have em:=B.ext.mx;refine .inr ⟨_,_,λf=>by rw[X5,A7 c1,A7 c2,A7 c3,C9 c4,A7 (λg=>g e0),hm],B.ok,B.ext,B2,D5 _ m _ B.ok B.ext b1 (z0q x2 B.ext.le),.inl (by omega),.inr ⟨m,S.root p.2,rfl,?_,b1,?_⟩⟩
     ·rw[<- B3 m e0 hm];exact(B2.same _ h1).symm
     ·rw[b3,b4];intro h6;unfold E9.become at hm;rw[C9 h6]at hm;cases hm
  ·exact .inl ⟨(_,0,0,_),λf=>by rw[X5,A7 c1,A7 c2,A7 c3,C9 c4,C9 e0],B.ok,B.ext,B2⟩
 by_cases c5:S.F9 (S.root p.2)=6
 ·have B:=Ke ok x2 x1 (ok.rr h2) (ok.rr h1) (Ne.symm c1) c2 c5;obtain⟨B2,B3⟩:=BH.become ok x2 x1 (ok.rr h2) (ok.rr h1) (Ne.symm c1) c2 c5;by_cases e0:(S.become (S.root p.2) (S.root p.1)).2.2=0
  ·cases hm:(S.become (S.root p.2) (S.root p.1)).2.1 with
   |none=>obtain⟨b1,b2⟩:=B.none e0 hm;exact .inr ⟨_,rest,λf=>by rw[X5,A7 c1,A7 c2,A7 c3,A7 c4,C9 c5,A7 (λg=>g e0),hm],B.ok,B.ext,B2,qP B.ext,.inr ⟨b1,.inl b2⟩,.inl rfl⟩
   |some m=>obtain⟨b1,b2,b3,b4⟩:=B.some m e0 hm;have:=B.ok.cm;have em:=B.ext.mx;refine .inr ⟨_,_,λf=>by rw[X5,A7 c1,A7 c2,A7 c3,A7 c4,C9 c5,A7 (λg=>g e0),hm],B.ok,B.ext,B2,D5 _ _ m B.ok B.ext (z0q x1 B.ext.le) b1,.inl (by omega),.inr ⟨S.root p.1,m,rfl,(B2.same _ h1).symm,z0q x1 B.ext.le,?_⟩⟩;rw[b4];exact c4
  ·exact .inl ⟨(_,0,0,_),λf=>by rw[X5,A7 c1,A7 c2,A7 c3,A7 c4,C9 c5,C9 e0],B.ok,B.ext,B2⟩
 by_cases c6:S.F9 (S.root p.1)=S.F9 (S.root p.2)
 ·refine .inr ⟨S,(S.I6 (S.root p.1)).zip (S.I6 (S.root p.2))++rest,λf=>by rw[X5,A7 c1,A7 c2,A7 c3,A7 c4,A7 c5,A7 (λg=>g c6)],ok,Y3.refl S,BH.refl ok,D5 S _ _ ok (Y3.refl S) h1 h2,.inr ⟨rfl,.inr ⟨rfl,?_⟩⟩,.inr ⟨p.1,p.2,rfl,rfl,h1,c4⟩⟩;obtain⟨d,d1,d2,d3,d4,d5⟩:=(ok.I8 h1).nd;have hz:=B3P ok (S.I6 (S.root p.1)) (S.I8 p.1).D5 (S.I6 (S.root p.2)) (by
   have:S.I6 (S.root p.1)=d.D5:=Cu d1;rw[this];exact d4) (by
   have:S.I6 (S.root p.1)=d.D5:=Cu d1;rw[this];exact d5)
  have hb:(S.I8 p.1).big=1+NT.y_ (S.I8 p.1).D5:=by cases S.I8 p.1;rw[NT.big];rfl
  simp only[wt,zbq,zgq,zjq,List.sum_append]at hz ⊢;omega
 ·exact .inl ⟨(S,_,_,4),λf=>by rw[X5,A7 c1,A7 c2,A7 c3,A7 c4,A7 c5,C9 c6],ok,Y3.refl S,BH.refl ok⟩
def B3Y:∀(A B C:Nat)(S:E9)(l:List (Nat×Nat)),S.mx-S.cnt<=A->S.uv<=B->wt S l<=C->S.Ok->(∀p∈l,p.1<S.l.length/\p.2<S.l.length)->∃f q,E9.P7 f S l=some q:=by
 intro A;induction A using Nat.strongRecOn with
 |_ A ihA=>
 intro B;induction B using Nat.strongRecOn with
 |_ B ihB=>
 intro C;induction C using Nat.strongRecOn with
 |_ C ihC=>
   intro S l hA hB hC ok hl;cases l with
   |nil=>exact⟨1,_,rfl⟩
   |cons p rest=>
     rcases agree_step ok hl with⟨q,h,-⟩ | ⟨T,l,h,G⟩
     ·exact⟨1,q,h 0⟩
     ·have:∃f q,E9.P7 f T l=some q:=by
       have em:=G.ext.mx;have cm:=G.ok.cm;rcases G.m with m | ⟨m0,m | ⟨m1,m2⟩⟩
       ·exact ihA _ (by omega) _ _ T l (z1q _) (z1q _) (z1q _) G.ok G.lt
       ·exact ihB _ (by omega) _ T l (by omega) (z1q _) (z1q _) G.ok G.lt
       ·exact ihC _ (by omega) T l (by omega) (by omega) (z1q _) G.ok G.lt
      obtain⟨f,q,hf⟩:=this;exact⟨f+1,q,(h f).trans hf⟩
def dF:∀(f:Nat)(S:E9)(l:List (Nat×Nat))(q:E9×Nat×Nat×Nat),S.Ok->(∀p∈l,p.1<S.l.length/\p.2<S.l.length)->E9.P7 f S l=some q->q.1.Ok/\Y3 S q.1/\BH S q.1
 |0,S,l,q,ok,hl,h=>by simp[E9.P7]at h
 |f+1,S,[],q,ok,hl,h=>by simp only[E9.P7,D8]at h;subst h;exact⟨ok,Y3.refl S,BH.refl ok⟩
 |f+1,S,p::rest,q,ok,hl,h=>by
   rcases agree_step ok hl with⟨q',h',a,c,d⟩ | ⟨T,l,h',G⟩
   ·rw[h' f]at h;cases h;exact⟨a,c,d⟩
   ·rw[h' f]at h;obtain⟨a,c,d⟩:=dF f T l q G.ok G.lt h;exact⟨a,G.ext.trans c,G.st.trans ok d⟩
def gF:∀(f:Nat)(S:E9)(l:List (Nat×Nat))(q:E9×Nat×Nat×Nat),S.Ok->(∀p∈l,p.1<S.l.length/\p.2<S.l.length)->E9.P7 f S l=some q->∀g,f<=g->E9.P7 g S l=some q
 |0,S,l,q,ok,hl,h,g,hg=>by simp[E9.P7]at h
 |f+1,S,[],q,ok,hl,h,0,hg=>by omega
 |f+1,S,[],q,ok,hl,h,g+1,hg=>h
 |f+1,S,p::rest,q,ok,hl,h,0,hg=>by omega
 |f+1,S,p::rest,q,ok,hl,h,g+1,hg=>by
   rcases agree_step ok hl with⟨q',h',a,c,d⟩ | ⟨T,l,h',G⟩
   ·rw[h' f]at h;rw[h' g];exact h
   ·rw[h' f]at h;rw[h' g];exact gF f T l q G.ok G.lt h g (by omega)
def Vw(ok:S.Ok){a b:Nat}(ha:a<S.l.length)(hb:b<S.l.length):∃f,E9.P7 f S [(a,b)]=some (S.agree a b):=by have:∃f q,E9.P7 f S [(a,b)]=some q:=B3Y _ _ _ S _ (z1q _) (z1q _) (z1q _) ok (by simp[ha,hb]);unfold E9.agree;rw[dif_pos this];exact⟨_,this.choose_spec.choose_spec⟩
theorem Zq(ok:S.Ok){a b:Nat}(ha:a<S.l.length)(hb:b<S.l.length){f:Nat}{q:E9×Nat×Nat×Nat}(h:E9.P7 f S [(a,b)]=some q):S.agree a b=q:=by
 obtain⟨g,hg⟩:=Vw ok ha hb;have hl:∀p∈[(a,b)],p.1<S.l.length/\p.2<S.l.length:=by simp[ha,hb]
 have h1:=gF f S _ q ok hl h (max f g) (zwq ..);have h2:=gF g S _ _ ok hl hg (max f g) (zpq ..);rw[h1]at h2;cases h2;rfl
def yu(ok:S.Ok){a b:Nat}(ha:a<S.l.length)(hb:b<S.l.length):(S.agree a b).1.Ok/\Y3 S (S.agree a b).1/\BH S (S.agree a b).1:=by obtain⟨f,hf⟩:=Vw ok ha hb;exact dF f S _ _ ok (by simp[ha,hb]) hf
mutual
def NT.high:NT->Nat
 |.mk _ _ ts=>NT.ZE ts+1
def NT.ZE:List NT->Nat
 |[]=>0
 |t::ts=>max t.high (NT.ZE ts)
end
def A6x:∀{ts:List NT}{t:NT},t∈ts->t.high<=NT.ZE ts
 |[],_,h=>by cases h
 |u::ts,t,h=>by
   rw[NT.ZE];rcases zfq.1 h with rfl | h
   ·omega
   ·have:=A6x h;omega
def A3u:∀{ts:List NT},ts≠[]->∃t∈ts,t.high=NT.ZE ts
 |[],h=>absurd rfl h
 |[t],_=>⟨t,z6q.2 rfl,by simp[NT.ZE]⟩
 |t::u::ts,_=>by
   obtain⟨w,w1,w2⟩:=A3u (ts:=u::ts) (by simp);rw[NT.ZE];by_cases h:t.high<=NT.ZE (u::ts)
   ·exact⟨w,z2q _ w1,by omega⟩
   ·exact⟨t,z3q ..,by omega⟩
def U2.high(t:NT):∀n,U2 S n t->∃l:List Nat,l.length=t.high/\l.Nodup/\∀x∈l,x∈t.all:=by
 induction t using NT.ind with
 |h r k ts ih=>
   intro n h;by_cases e:ts=[]
   ·exact⟨[r],by rw[NT.high,e];rfl,by simp,λx hx=>by rw[z6q.1 hx];exact NT.BZ.2 (.inl rfl)⟩
   ·obtain⟨t,t1,t2⟩:=A3u e;obtain⟨m,hm⟩:=h.kid (u:=t) t1;obtain⟨l,l1,l2,l3⟩:=ih t t1 m hm;refine⟨r::l,by rw[NT.high,zxq,l1,t2],List.nodup_cons.2 ⟨λhr=>h.fresh t1 (l3 r hr),l2⟩,λx hx=>?_⟩;rcases zfq.1 hx with rfl | hx
    ·exact NT.BZ.2 (.inl rfl)
    ·exact NT.BZ.2 (.inr ⟨t,t1,l3 x hx⟩)
def E9.Ok.high(ok:S.Ok){n:Nat}(hn:n<S.l.length):(S.I8 n).high<=S.l.length:=by obtain⟨l,l1,l2,l3⟩:=U2.high _ _ (ok.I8 hn);have:=kX l2 (m:=List.range S.l.length) λx hx=>List.mem_range.2 ((ok.I8 hn).B12 (l3 x hx));rw[List.length_range]at this;omega
def Low(F:E9)(H:Nat):List (Nat×Nat)->Prop
 |[]=>True
 |p::rest=>(F.I8 p.1).high+rest.length<=H/\Low F H rest
def Low.zip(okF:F.Ok){x H:Nat}(hx:x<F.l.length)(hr:Low F H rest)(h:(F.I8 x).high+rest.length<=H)(js:List Nat)(hk:(F.I6 (F.root x)).length<=2):Low F H ((F.I6 (F.root x)).zip js++rest):=by
 obtain⟨d,d1,d2,d3,d4,d5⟩:=(okF.I8 hx).nd;have e:F.I6 (F.root x)=d.D5:=Cu d1;rw[e]at hk ⊢;have hh:(F.I8 x).high=NT.ZE (F.I8 x).D5+1:=by cases F.I8 x;rw[NT.high];rfl
 have kid:∀k∈d.D5,(F.I8 k).high+1<=(F.I8 x).high:=by intro k hk;obtain⟨j,hj,rfl⟩:=zrq.1 hk;have:=A6x (z9q (show j<(F.I8 x).D5.length by omega));rw[(d5 j hj (by omega)).eq];omega
 match d.D5,js,hk,kid with
 |[],js,_,_=>simpa using hr
 |[k],[],_,_=>simpa using hr
 |[k],j::js,_,kid=>have:=kid k (by simp);simp only[zDq,y8q,zTq,zLq];exact⟨by simp only;omega,hr⟩
 |[k,k'],[],_,_=>simpa using hr
 |[k,k'],[j],_,kid=>have:=kid k (by simp);simp only[zDq,List.zip_nil_right,zTq,zLq];exact⟨by simp only;omega,hr⟩
 |[k,k'],j::j'::js,_,kid=>have:=kid k (by simp);have:=kid k' (by simp);simp only[zDq,y8q,zTq,zLq];exact⟨by simp only[zxq];omega,by simp only;omega,hr⟩
 |_::_::_::_,_,hk,_=>simp at hk
def Low.len{H:Nat}:∀{l:List (Nat×Nat)},Low F H l->l.length<=H+1
 |[],_=>zhq _
 |p::l,h=>by have:=h.1;simp only[zxq];omega
end Go.Su

/-
 INFERENCE, as a function: patterns, expressions, what is read behind them.
-/
namespace Go.Su
noncomputable section
structure JN where
 lo:Int
 hi:Int
 why:Nat
 left:Nat
 right:Nat
 name:ByteArray
def U1:JN:=⟨0,0,0,0,0,AO⟩
inductive DD where
 |mk (node:Nat) (types vars:List Nat) (D5:List DD)
structure EN where
 name:ByteArray
 node:Nat
 vars:List Nat
structure W where
 s:E9
 bad:JN
 err:Nat
 types:List Nat
 vars:List Nat
 D5:List DD
def Ex.kd(t:Ex)(i:Nat):Ex:=t.D5.getD i t
structure PS where
 s:E9
 names:List ByteArray
 nodes:List Nat
 bad:JN
namespace PS
def agree(x:PS)(lo hi:Int)(a b:Nat):PS×Nat :=({ x with s:=(x.s.agree a b).1,bad:=if (x.s.agree a b).2.2.2≠0/\(x.s.agree a b).2.2.2≠7 then⟨lo,hi,(x.s.agree a b).2.2.2,(x.s.agree a b).2.1,(x.s.agree a b).2.2.1,AO⟩else x.bad },(x.s.agree a b).2.2.2)
def made(x:PS)(A9:Nat)(lo hi:Int)(n k many:Nat):PS×List Nat×Nat×Nat :=
 let f:=E9.fresh A9 many x.s
 if f.2.2≠0 then({ x with s:=f.1 },[],0,f.2.2)
 else
  let m:=f.1.make k (f.2.1.getD 0 0) (f.2.1.getD (many-1) 0)
  if m.2.2≠0 then({ x with s:=m.1 },[],0,m.2.2)
  else
   let a:=({ x with s:=m.1 }:PS).agree lo hi n m.2.1
   (a.1,f.2.1,m.2.1,a.2)
end PS
mutual
def CP(A9:Nat):F6->Nat->PS->PS×Nat
 |.mk k lo hi name _ _ ks,nd,x=>
   if k=1 then(x,0)
   else if k=2 then({ x with names:=x.names++[name],nodes:=x.nodes++[nd] },0)
   else if k=7 then
    if (x.made A9 lo hi nd 7 2).2.2.2≠0 then((x.made A9 lo hi nd 7 2).1,(x.made A9 lo hi nd 7 2).2.2.2)else Fw A9 ks (x.made A9 lo hi nd 7 2).2.1 (x.made A9 lo hi nd 7 2).1
   else if k=8\/k=9 then
    if (x.made A9 lo hi nd 8 1).2.2.2≠0\/k=8 then((x.made A9 lo hi nd 8 1).1,(x.made A9 lo hi nd 8 1).2.2.2)else Fw A9 ks ((x.made A9 lo hi nd 8 1).2.1++[(x.made A9 lo hi nd 8 1).2.2.1]) (x.made A9 lo hi nd 8 1).1
   else x.agree lo hi nd (k-3).toNat
def Fw(A9:Nat):List F6->List Nat->PS->PS×Nat
 |[],_,x=>(x,0)
 |p::ps,ns,x=>if (CP A9 p (ns.headD 0) x).2≠0 then CP A9 p (ns.headD 0) x else Fw A9 ps ns.tail (CP A9 p (ns.headD 0) x).1
end
namespace W
variable (w:W)
def fails(e:Nat)(b:JN):W:=if w.err=0/\e≠0 then{ w with err:=e,bad:=if e≠7 then b else w.bad }else w
variable (A9:Nat)
def fresh:W×Nat:=if w.err≠0 then(w,0)else(({ w with s:=(w.s.var A9).1 }:W).fails (w.s.var A9).2.2 U1,(w.s.var A9).2.1)
def made(k a b:Nat):W×Nat:=if w.err≠0 then(w,0)else(({ w with s:=(w.s.make k a b).1 }:W).fails (w.s.make k a b).2.2 U1,(w.s.make k a b).2.1)
def put(t:Ty):W×Nat:=if w.err≠0 then(w,0)else(({ w with s:=(w.s.put t).1 }:W).fails (w.s.put t).2.2 U1,(w.s.put t).2.1)
def agree(a b:Nat)(e:Ex):W :=if w.err≠0 then w else({ w with s:=(w.s.agree a b).1 }:W).fails (w.s.agree a b).2.2.2 ⟨e.lo,e.hi,(w.s.agree a b).2.2.2,(w.s.agree a b).2.1,(w.s.agree a b).2.2.1,AO⟩
def tell(q:W×Nat):W×Nat:=({ q.1 with types:=q.1.types++[q.2] },q.2)
def AP(t:Ty)(A9:Nat):W×Nat:=if t.E8≠0 then w.put t else tell (w.fresh A9)
def above(n A9:Nat):W×List Nat:=({ w with s:=w.s.tick },(w.s.vars n).filter λv=>decide (A9<w.s.X4 v))
def many(A9:Nat):Nat->W->W
 |0,w=>w
 |k+1,w=>many A9 k (tell (w.fresh A9)).1
variable (e:Ex)
def name(A9:Nat)(l:List EN):W×Nat :=
 match l.reverse.find? λx=>decide (x.name=e.name)with
 |none=>(w.fails 6 ⟨e.lo,e.hi,6,0,0,e.name⟩,0)
 |some x=>
   if x.vars=[]then(w,x.node)
   else
    let w1:=many A9 x.vars.length w
    if w1.err≠0 then(w1,0)else(({ w1 with s:=(w1.s.copy x.node x.vars w1.types).1 }:W).fails (w1.s.copy x.node x.vars w1.types).2.2 U1,(w1.s.copy x.node x.vars w1.types).2.1)
end W
variable (w:W)
def gG(f a:Nat)(e:Ex)(A9:Nat):W×Nat :=
 if w.err≠0 then(w,0)
 else if w.s.F9 (w.s.root f)=5 then(w.agree a 4 (e.kd 1),4)
 else if w.s.F9 (w.s.root f)=6 then
  let v:=w.fresh A9
  let u:=v.1.fresh A9
  let m:=u.1.made 9 v.2 u.2
  ((m.1.agree f m.2 (e.kd 0)).agree a v.2 (e.kd 1),u.2)
 else if w.s.F9 (w.s.root f)=9 then(w.agree a ((w.s.I6 (w.s.root f)).getD 0 0) (e.kd 1),(w.s.I6 (w.s.root f)).getD 1 0)
 else(w.fails 4 ⟨(e.kd 0).lo,(e.kd 0).hi,4,w.s.F9 (w.s.root f),9,AO⟩,0)
def Rec:=Ex->Nat->List EN->W->W×Nat×DD
section
variable (R:Rec)
def L6(w:W)(e:Ex)(A9:Nat)(l:List EN):W×Nat :=if w.err≠0 then(w,0)else({ (R e A9 l w).1 with types:=w.types,vars:=w.vars,D5:=w.D5++[(R e A9 l w).2.2] },(R e A9 l w).2.1)
def W.Aq(w:W)(l:List Nat):W:={ w with types:=l }
def W.ZU(w:W)(l:List Nat):W:={ w with vars:=l }
def QZ(w:W)(e:Ex)(A9:Nat)(l:List EN):W×Nat :=
 let a:=L6 R w (e.kd 0) A9 l
 let b:=L6 R a.1 (e.kd 1) A9 l
 let v:=b.1.fresh A9
 let n:=((v.1.Aq [v.2]).agree a.2 v.2 (e.kd 0)).made 8 v.2 0
 (n.1.agree b.2 n.2 (e.kd 1),n.2)
def Vx(w:W)(e:Ex)(A9:Nat)(l:List EN):W×Nat :=
 let f:=L6 R w (e.kd 0) A9 l
 let a:=L6 R f.1 (e.kd 1) A9 l
 gG a.1 f.2 a.2 e A9
def WN(w:W)(e:Ex)(A9:Nat)(l:List EN):W×Nat :=
 if e.a.E8≠0 then
  let a:=L6 R w (e.kd 0) A9 l
  let n:=a.1.put e.a
  L6 R (n.1.agree a.2 n.2 (e.kd 0)) (e.kd 1) A9 (l++[⟨e.name,n.2,[]⟩])
 else if (e.kd 0).value=true then
  let a:=L6 R w (e.kd 0) (A9+1) l
  if a.1.err≠0 then L6 R a.1 (e.kd 1) A9 (l++[⟨e.name,a.2,[]⟩])
  else L6 R ((a.1.above a.2 A9).1.ZU (a.1.above a.2 A9).2) (e.kd 1) A9 (l++[⟨e.name,a.2,(a.1.above a.2 A9).2⟩])
 else
  let a:=L6 R w (e.kd 0) A9 l
  L6 R a.1 (e.kd 1) A9 (l++[⟨e.name,a.2,[]⟩])
def WS(w:W)(e:Ex)(A9:Nat)(l:List EN):W×Nat :=
 let p:=w.AP e.a (A9+1)
 let r:=p.1.AP e.b (A9+1)
 let f:=r.1.made 9 p.2 r.2
 let b:=L6 R f.1 (e.kd 0) (A9+1) (l++[⟨e.name,f.2,[]⟩,⟨e.arg,p.2,[]⟩])
 let w1:=b.1.agree b.2 r.2 (e.kd 0)
 if w1.err≠0 then L6 R w1 (e.kd 1) A9 (l++[⟨e.name,f.2,[]⟩])
 else L6 R ((w1.above f.2 A9).1.ZU (w1.above f.2 A9).2) (e.kd 1) A9 (l++[⟨e.name,f.2,(w1.above f.2 A9).2⟩])
def QY(w:W)(e:Ex)(A9:Nat)(l:List EN):W×Nat :=
 let c:=L6 R w (e.kd 0) A9 l
 let a:=L6 R (c.1.agree c.2 1 (e.kd 0)) (e.kd 1) A9 l
 let b:=L6 R a.1 (e.kd 2) A9 l
 let v:=b.1.fresh A9
 (((v.1.Aq [v.2]).agree a.2 v.2 (e.kd 1)).agree b.2 v.2 (e.kd 2),v.2)
def E_(A9:Nat)(l:List EN)(v r:Nat):List (F6×Ex)->W->W×Nat
 |[],w=>(w,r)
 | (p,k)::qs,w=>
   if w.err≠0 then(w,0)
   else
    let q:=CP A9 p v ⟨w.s,[],[],U1⟩
    let w1:=({ w with s:=q.1.s }:W).fails q.2 q.1.bad
    let b:=L6 R w1 k A9 (l++if q.2≠0 then[]else List.zipWith (λs n=>⟨s,n,[]⟩) q.1.names q.1.nodes)
    E_ A9 l v r qs (b.1.agree b.2 r k)
def MX(w:W)(e:Ex)(A9:Nat)(l:List EN):W×Nat :=
 let a:=L6 R w (e.kd 0) A9 l
 let v:=a.1.fresh A9
 let r:=(v.1.agree a.2 v.2 (e.kd 0)).fresh A9
 E_ R A9 l v.2 r.2 (e.J7.zip e.D5.tail) (r.1.Aq [v.2,r.2])
def Ho(A9:Nat)(l:List EN)(want:Nat):List Ex->W->W
 |[],w=>w
 |k::ks,w=>Ho A9 l want ks ((L6 R w k A9 l).1.agree (L6 R w k A9 l).2 want k)
def T9(w:W)(e:Ex)(A9:Nat)(l:List EN):W×Nat :=
 if e.E8=1 then w.name e A9 l
 else if e.E8=2\/e.E8=3\/e.E8=4\/e.E8=5 then(w,(e.E8-2).toNat)
 else if e.E8=6 then
  let a:=L6 R w (e.kd 0) A9 l
  let b:=L6 R a.1 (e.kd 1) A9 l
  b.1.made 7 a.2 b.2
 else if e.E8=7 then(((w.fresh A9).1.Aq [(w.fresh A9).2]).made 8 (w.fresh A9).2 0)
 else if e.E8=8 then QZ R w e A9 l
 else if e.E8=9 then
  let p:=w.AP e.a A9
  let b:=L6 R p.1 (e.kd 0) A9 (l++[⟨e.name,p.2,[]⟩])
  b.1.made 9 p.2 b.2
 else if e.E8=10 then Vx R w e A9 l
 else if e.E8=11 then WN R w e A9 l
 else if e.E8=12 then WS R w e A9 l
 else if e.E8=13 then QY R w e A9 l
 else if e.E8=14 then MX R w e A9 l
 else if e.E8=15 then
  let a:=L6 R w (e.kd 0) A9 l
  let n:=a.1.put e.a
  (n.1.agree a.2 n.2 (e.kd 0),n.2)
 else(Ho R A9 l (if e.op=7 then 2 else 0) e.D5 w,if e.op=5\/e.op=6\/e.op=7 then 1 else 0)
end
def M5:Nat->Rec
 |0=>λe A9 l w=>(w,0,.mk 0 [] [] [])
 |f+1=>λe A9 l w=>
   let q:=T9 (M5 f) { w with types:=[],vars:=[],D5:=[] } e A9 l
   (q.1,q.2,.mk q.2 q.1.types q.1.vars q.1.D5)
mutual
def AY:DD->W->W
 |.mk n _ _ ks,w=>if w.err≠0 then w else K_ ks (({ w with s:=(w.s.read n).1 }:W).fails (w.s.read n).2.2 U1)
def K_:List DD->W->W
 |[],w=>w
 |k::ks,w=>K_ ks (AY k w)
end
def Az:List Nat->W->W×List Ty
 |[],w=>(w,[])
 |n::ns,w=>
   if w.err≠0 then(w,[])
   else((Az ns (({ w with s:=(w.s.read n).1 }:W).fails (w.s.read n).2.2 U1)).1,(w.s.read n).2.1::(Az ns (({ w with s:=(w.s.read n).1 }:W).fails (w.s.read n).2.2 U1)).2)
mutual
def BP:DD->W->W×K8
 |.mk _ ts vs ks,w=>((C_ ks (Az ts w).1).1,.mk (Az ts w).2 (vs.map Int.ofNat) (C_ ks (Az ts w).1).2)
def C_:List DD->W->W×List K8
 |[],w=>(w,[])
 |k::ks,w=>if w.err≠0 then(w,[])else((C_ ks (BP k w).1).1,(BP k w).2::(C_ ks (BP k w).1).2)
end
def Da(vs:List Int)(N:List Int):List Int:=vs.foldl (λN v=>if v∈N then N else N++[v]) N
mutual
def nY:K8->List Int->List Int
 |.mk ts vs ks,N=>ZK ks (Da vs (ts.foldl (λN t=>Da t.vars N) N))
def ZK:List K8->List Int->List Int
 |[],N=>N
 |k::ks,N=>ZK ks (nY k N)
end
def numOf(N:List Int)(v:Int):Int:=if v∈N then(N.idxOf v:Int)else 0
mutual
def Hm(N:List Int):Ty->Ty
 |.mk k n ts=>if k=6 then .mk k (numOf N n) ts else if ts.length=0 then .mk k n ts else .mk k 0 (ZM N ts)
def ZM(N:List Int):List Ty->List Ty
 |[]=>[]
 |t::ts=>Hm N t::ZM N ts
end
mutual
def VD(N:List Int):K8->K8
 |.mk ts vs ks=>.mk (ts.map (Hm N)) (vs.map (numOf N)) (eY N ks)
def eY(N:List Int):List K8->List K8
 |[]=>[]
 |k::ks=>VD N k::eY N ks
end
structure A5c where
 ty:Ty
 dv:K8
 cnt:Nat
 bad:JN
 err:Nat
def zD:K8:=.mk [] [] []
def J3(e:Ex)(mx:Nat):W×Nat×DD:=M5 e.size e 1 [] ⟨EQ mx,U1,0,[],[],[]⟩
def U6(e:Ex)(mx:Nat):A5c :=
 let x:=J3 e mx
 let r:=BP x.2.2 (AY x.2.2 x.1)
 if r.1.err≠0 then⟨zTy,zD,0,r.1.bad,r.1.err⟩
 else
  let N:=nY r.2 (Da (x.1.s.read x.2.1).2.1.vars [])
  ⟨Hm N (x.1.s.read x.2.1).2.1,VD N r.2,r.1.s.cnt,U1,0⟩
end
end Go.Su

/-
 INFERENCE keeps the store right.
-/
namespace Go.Su
set_option linter.defProp false
mutual
def DD.lt(n:Nat):DD->Prop
 |.mk m ts vs ks=>m<n/\(∀x∈ts,x<n)/\((∀x∈vs,x<n)/\vs.length<2 ^ 29)/\DD.Yj n ks
def DD.Yj(n:Nat):List DD->Prop
 |[]=>True
 |k::ks=>DD.lt n k/\DD.Yj n ks
end
def A2A{n:Nat}:∀{ks:List DD},DD.Yj n ks↔∀k∈ks,DD.lt n k
 |[]=>by simp[DD.Yj]
 |k::ks=>by rw[DD.Yj,A2A];simp
mutual
theorem DD.A9C{n m:Nat}(h:n<=m):∀d:DD,DD.lt n d->DD.lt m d
 |.mk a ts vs ks,g=>by rw[DD.lt]at g ⊢;exact⟨z0q g.1 h,λx hx=>z0q (g.2.1 x hx) h,⟨λx hx=>z0q (g.2.2.1.1 x hx) h,g.2.2.1.2⟩,zf h ks g.2.2.2⟩
theorem zf{n m:Nat}(h:n<=m):∀ks:List DD,DD.Yj n ks->DD.Yj m ks
 |[],g=>g
 |k::ks,g=>by rw[DD.Yj]at g ⊢;exact⟨DD.A9C h k g.1,zf h ks g.2⟩
end
def AB(n:Nat)(l:List EN):Prop:=∀x∈l,x.node<n/\∀v∈x.vars,v<n
variable {n:Nat}{l:List EN}
def AB.mono{m:Nat}(h:AB n l)(le:n<=m):AB m l:=λx hx=>⟨z0q (h x hx).1 le,λv hv=>z0q ((h x hx).2 v hv) le⟩
def AB.app{k:List EN}(h:AB n l)(g:AB n k):AB n (l++k):=λx hx=>by
 rcases zcq.1 hx with hx | hx
 ·exact h x hx
 ·exact g x hx
def AB.one{s:ByteArray}{m:Nat}(h:m<n):AB n [⟨s,m,[]⟩]:=λx hx=>by rw[z6q.1 hx];exact⟨h,by simp⟩
structure AF(w:W):Prop where
 ok:w.s.Ok
 ty:∀x∈w.types,x<w.s.l.length
 vs:(∀x∈w.vars,x<w.s.l.length)/\w.vars.length<2 ^ 29
 ks:DD.Yj w.s.l.length w.D5
structure Good(w w':W):Prop where
 i:AF w'
 ext:Y3 w.s w'.s
variable {w:W}
def Good.refl(h:AF w):Good w w:=⟨h,Y3.refl _⟩
def Good.trans{a b c:W}(h:Good a b)(k:Good b c):Good a c:=⟨k.i,h.ext.trans k.ext⟩
def AF.s{w':W}(h:AF w)(ok:w'.s.Ok)(e:Y3 w.s w'.s)(h1:w'.types=w.types)(h2:w'.vars=w.vars)(h3:w'.D5=w.D5):Good w w' :=⟨⟨ok,by rw[h1];exact λx hx=>z0q (h.ty x hx) e.le,by rw[h2];exact⟨λx hx=>z0q (h.vs.1 x hx) e.le,h.vs.2⟩,by rw[h3];exact zf e.le _ h.ks⟩,e⟩
def Good.fails{w':W}(h:Good w w')(e:Nat)(b:JN):Good w (w'.fails e b):=by
 unfold W.fails;split
 ·exact⟨⟨h.i.ok,h.i.ty,h.i.vs,h.i.ks⟩,h.ext⟩
 ·exact h
theorem AQ(w:W)(e:Nat)(b:JN):(w.fails e b).s=w.s:=by unfold W.fails;split<;>rfl
theorem Rn(w:W)(e:Nat)(b:JN):(w.fails e b).types=w.types:=by unfold W.fails;split<;>rfl
variable {S:E9}
def Ct.A7q{T:E9}(g:Ct S T)(h:S.cnt<=T.cnt):Y3 S T:=⟨g.le,g.mx,h,g.J6⟩
variable {A9:Nat}
def BM(h:AF w)(hl:A9<2 ^ 31):Good w (w.fresh A9).1/\(w.fresh A9).2<(w.fresh A9).1.s.l.length:=by
 unfold W.fresh;split
 ·exact⟨Good.refl h,by have:=h.ok.five;simp only;omega⟩
 ·obtain⟨a1,a2,a3,a4,a5,a6⟩:=VN h.ok hl;exact⟨(h.s (w':={ w with s:=(w.s.var A9).1 }) a1 (a2.A7q a6) rfl rfl rfl).fails _ _,by rw[AQ];exact a4⟩
def Fs(h:AF w){k x y:Nat}(hk:k=7\/k=8\/k=9)(hx:x<w.s.l.length)(hy:k≠8->y<w.s.l.length):Good w (w.made k x y).1/\(w.made k x y).2<(w.made k x y).1.s.l.length:=by
 unfold W.made;split
 ·exact⟨Good.refl h,by have:=h.ok.five;simp only;omega⟩
 ·obtain⟨a1,a2,a3,a4,a5,a6⟩:=MW h.ok hk hx hy;exact⟨(h.s (w':={ w with s:=(w.s.make k x y).1 }) a1 (a2.A7q a6) rfl rfl rfl).fails _ _,by rw[AQ];exact a4⟩
variable {t:Ty}
def B3f(ok:S.Ok)(ht:t.rc):(S.put t).1.Ok/\Ct S (S.put t).1/\S.cnt<=(S.put t).1.cnt/\(S.put t).2.1<(S.put t).1.l.length:=by
 unfold E9.put;have:=ok.cm;have:=ok.five;split
 ·exact⟨ok,Ct.refl S,z1q _,by simp only;omega⟩
 ·obtain⟨p,p2⟩:=Qj t ht S ok (by omega);exact⟨p.ok,p.U3,by rw[p.cnt];omega,p2⟩
def WR(h:AF w)(ht:t.rc):Good w (w.put t).1/\(w.put t).2<(w.put t).1.s.l.length:=by
 unfold W.put;split
 ·exact⟨Good.refl h,by have:=h.ok.five;simp only;omega⟩
 ·obtain⟨a1,a2,a3,a4⟩:=B3f h.ok ht;exact⟨(h.s (w':={ w with s:=(w.s.put t).1 }) a1 (a2.A7q a3) rfl rfl rfl).fails _ _,by rw[AQ];exact a4⟩
def V8(h:AF w){a b:Nat}(ha:a<w.s.l.length)(hb:b<w.s.l.length)(e:Ex):Good w (w.agree a b e):=by
 unfold W.agree;split
 ·exact Good.refl h
 ·obtain⟨a1,a2,-⟩:=yu h.ok ha hb;exact(h.s (w':={ w with s:=(w.s.agree a b).1 }) a1 a2 rfl rfl rfl).fails _ _
variable {l:List Nat}
def JM{w':W}(h:Good w w')(hl:∀x∈l,x<w'.s.l.length):Good w (w'.Aq l):=⟨⟨h.i.ok,hl,h.i.vs,h.i.ks⟩,h.ext⟩
def Ta{w':W}(h:Good w w')(hl:(∀x∈l,x<w'.s.l.length)/\l.length<2 ^ 29):Good w (w'.ZU l):=⟨⟨h.i.ok,h.i.ty,hl,h.i.ks⟩,h.ext⟩
def fJ{q:W×Nat}(h:Good w q.1)(hq:q.2<q.1.s.l.length):Good w (W.tell q).1/\(W.tell q).2<(W.tell q).1.s.l.length :=
 ⟨⟨⟨h.i.ok,λx hx=>by
   simp only[W.tell,zcq,z6q]at hx;rcases hx with hx | hx
   ·exact h.i.ty x hx
   ·rw[hx];exact hq,h.i.vs,h.i.ks⟩,h.ext⟩,hq⟩
def Qg(h:AF w)(ht:t.E8≠0->t.rc)(hl:A9<2 ^ 31):Good w (w.AP t A9).1/\(w.AP t A9).2<(w.AP t A9).1.s.l.length:=by
 unfold W.AP;split
 ·rename_i g;exact WR h (ht g)
 ·obtain⟨a,c⟩:=BM h hl;exact fJ a c
def B1X(ok:w.s.Ok)(hn:n<w.s.l.length):(w.above n A9).2.length<2 ^ 29:=by have h1:(w.above n A9).2.length<=(w.s.vars n).length:=y1q ..;have h2:(w.s.vars n).length<=(w.s.roots n).length:=y1q ..;have:=E9.A3P ok hn;have:=ok.lc;have:=ok.cm;have:=ok.mm;omega
def EY(h:AF w)(hn:n<w.s.l.length):Good w (w.above n A9).1/\(∀x∈(w.above n A9).2,x<(w.above n A9).1.s.l.length)/\(w.above n A9).2.length<2 ^ 29 :=⟨h.s (w':={ w with s:=w.s.tick }) h.ok.tick (Y3.tick _) rfl rfl rfl,λx hx=>h.ok.NL hn (y3q.1 (y3q.1 hx).1).1,B1X h.ok hn⟩
def uX{A9:Nat}(hl:A9<2 ^ 31):∀(k:Nat){w:W},AF w->Good w (W.many A9 k w)
 |0,w,h=>Good.refl h
 |k+1,w,h=>by obtain⟨a,c⟩:=BM h hl;obtain⟨d,-⟩:=fJ a c;rw[W.many];exact d.trans (uX hl k d.i)
def A2v{S:E9}{n:Nat}:∀(fs ts:List Nat)(K K':List (Nat×Nat)),fs.length<=ts.length->(∀t∈ts,t<n)->(∀e∈K,e.2<n)->S.keys fs ts K=some K'->∀e∈K',e.2<n
 |[],ts,K,K',_,_,hk,h=>by simp only[E9.keys,D8]at h;subst h;exact hk
 |f::fs,[],K,K',hl,_,hk,h=>by simp at hl
 |f::fs,t::ts,K,K',hl,ht,hk,h=>by
   rw[E9.keys]at h;split at h
   ·refine A2v fs ts _ K' (by simpa using hl) (λx hx=>ht x (z2q _ hx)) (λe he=>?_) h;rcases zcq.1 he with he | he
    ·exact hk e he
    ·rw[z6q.1 he];exact ht t (z3q ..)
   ·cases h
theorem A1p(ok:S.Ok)(hn:n<S.l.length)(K:List (Nat×Nat)):S.tick.need K n=S.need K n:=by
 have hr:S.tick.roots n=S.roots n:=by unfold E9.roots;rw[(ok.I8 hn).tick.eq]
 unfold E9.need;rw[hr];congr 1;refine zZq λr h=>?_;have:=ok.NL hn h;rw[(ok.I8 this).tick.eq];rfl
def zA(ok:S.Ok)(hn:n<S.l.length){from_ to:List Nat}(hl:from_.length<=to.length)(ht:∀t∈to,t<S.l.length):(S.copy n from_ to).1.Ok/\Y3 S (S.copy n from_ to).1/\(S.copy n from_ to).2.1<(S.copy n from_ to).1.l.length:=by
 unfold E9.copy;have:=ok.five;split
 ·exact⟨ok,Y3.refl S,by simp only;omega⟩
 ·rename_i K hK;split
  ·exact⟨ok.tick,Y3.tick S,by simp only[E9.tick];omega⟩
  ·rename_i hnd;have hk:=A2v from_ to [] K hl ht (by simp) hK;have rt:S.tick.roots n=S.roots n:=by unfold E9.roots;rw[(ok.I8 hn).tick.eq]
   obtain⟨C,c2,-⟩:=jC (S0:=S.tick) (n0:=n) ok.tick hk (by rw[A1p ok hn];exact y9q.1 hnd) rfl (S.I8 n) n (ok.I8 hn).tick (λx hx=>by rw[rt];exact(ok.CS hn).2 hx) S.tick [] ⟨ok.tick,Ct.refl _,rfl,rfl,by simp,y6q,by simp⟩;exact⟨C.ok,(Y3.tick S).trans (C.U3.A7q (by rw[C.cnt];omega)),c2⟩
def ZJ{A9:Nat}:∀(k:Nat)(w:W),(W.many A9 k w).types.length=w.types.length+k
 |0,w=>rfl
 |k+1,w=>by
   rw[W.many,ZJ k];have:(w.fresh A9).1.types=w.types:=by
    unfold W.fresh;split
    ·rfl
    ·rw[Rn]
   simp only[W.tell,zEq,this,zxq,zMq];omega
def B2Y(h:AF w){e:Ex}{l:List EN}(hl:A9<2 ^ 31)(hE:AB w.s.l.length l):Good w (w.name e A9 l).1/\(w.name e A9 l).2<(w.name e A9 l).1.s.l.length:=by
 have f5:=h.ok.five;unfold W.name;split
 ·exact⟨(Good.refl h).fails _ _,by rw[AQ];simp only;omega⟩
 ·rename_i x hx;obtain⟨x1,x2⟩:=hE x (by simpa using zWq hx);split
  ·exact⟨Good.refl h,x1⟩
  ·have g:=uX hl x.vars.length h;have ht:=ZJ (A9:=A9) x.vars.length w;simp only;generalize W.many A9 x.vars.length w=w1 at g ht ⊢;split
   ·exact⟨g,by have:=g.i.ok.five;simp only;omega⟩
   ·obtain⟨c1,c2,c3⟩:=zA g.i.ok (z0q x1 g.ext.le) (from_:=x.vars) (to:=w1.types) (by omega) g.i.ty;exact⟨g.trans ((g.i.s (w':={ w1 with s:=(w1.s.copy x.node x.vars w1.types).1 }) c1 c2 rfl rfl rfl).fails _ _),by rw[AQ];exact c3⟩
structure Tu(x y:PS):Prop where
 ok:y.s.Ok
 ext:Y3 x.s y.s
 nd:(∀n∈x.nodes,n<x.s.l.length)->∀n∈y.nodes,n<y.s.l.length
def Tu.trans{x y z:PS}(h:Tu x y)(k:Tu y z):Tu x z:=⟨k.ok,h.ext.trans k.ext,λg=>k.nd (h.nd g)⟩
def iK{x:PS}(ok:x.s.Ok){lo hi:Int}{a b:Nat}(ha:a<x.s.l.length)(hb:b<x.s.l.length):Tu x (x.agree lo hi a b).1:=by obtain⟨a1,a2,-⟩:=yu ok ha hb;exact⟨a1,a2,λg n hn=>z0q (g n hn) a2.le⟩
def NK{x:PS}(ok:x.s.Ok)(hl:A9<2 ^ 31){lo hi:Int}{k many:Nat}(hk:k=7/\many=2\/k=8/\many=1)(hn:n<x.s.l.length):
 Tu x (x.made A9 lo hi n k many).1/\(∀y∈(x.made A9 lo hi n k many).2.1,y<(x.made A9 lo hi n k many).1.s.l.length)/\(x.made A9 lo hi n k many).2.2.1<(x.made A9 lo hi n k many).1.s.l.length/\((x.made A9 lo hi n k many).2.2.2=0->(x.made A9 lo hi n k many).2.1.length=many):=by
 have f5:=ok.five;unfold PS.made;obtain⟨f1,f2,f3,f4,f5',f6⟩:=LJ hl many x.s ok;simp only;generalize E9.fresh A9 many x.s=q at f1 f2 f3 f4 f5' f6 ⊢;have e1:Y3 x.s q.1:=⟨f2.le,f2.mx,f4,zoq f3.symm⟩;have p1:Tu x { x with s:=q.1 }:=⟨f1,e1,λg n hn=>z0q (g n hn) e1.le⟩;split
 ·rename_i g;exact⟨p1,by simp,by have:=f1.five;simp only;omega,λh=>absurd h g⟩
 ·rename_i g;have g0:q.2.2=0:=Classical.not_not.1 g;have ql:=f6 g0;have p0:∀i,i<many->q.2.1.getD i 0<q.1.l.length:=by intro i hi;rw[z5q,z4q (by omega)];exact f5' _ (z9q (by omega))
  obtain⟨m1,m2,m3,m4,m5,m6⟩:=MW f1 (k:=k) (x:=q.2.1.getD 0 0) (y:=q.2.1.getD (many-1) 0) (by omega) (p0 0 (by omega)) (λ_=>p0 (many-1) (by omega));generalize q.1.make k (q.2.1.getD 0 0) (q.2.1.getD (many-1) 0)=z at m1 m2 m3 m4 m5 m6 ⊢;have e2:Y3 x.s z.1:=e1.trans (m2.A7q m6);have p2:Tu x { x with s:=z.1 }:=⟨m1,e2,λg n hn=>z0q (g n hn) e2.le⟩;split
  ·rename_i gz;exact⟨p2,by simp,by have:=m1.five;simp only;omega,λh=>absurd h gz⟩
  ·have A:=iK (x:={ x with s:=z.1 }) m1 (lo:=lo) (hi:=hi) (a:=n) (b:=z.2.1) (z0q hn e2.le) m4;refine⟨p2.trans A,λy hy=>?_,z0q m4 A.ext.le,λ_=>ql⟩;exact z0q (z0q (f5' y hy) m2.le) A.ext.le
def F6.A2D{p:F6}(h:p.one=true):(p.E8=7\/p.E8=9->p.D5.length=2)/\1<=p.E8/\p.E8<=9:=by
 unfold F6.one at h;split at h
 ·omega
 split at h
 ·omega
 split at h
 ·omega
 split at h
 ·omega
 split at h
 ·omega
 split at h
 ·simp only[z8q,I4]at h;exact⟨λ_=>h.1.1.1,by omega,by omega⟩
 ·cases h
theorem A2H(A9:Nat)(p:F6)(ps:List F6)(n:Nat)(ns:List Nat)(x:PS):Fw A9 (p::ps) (n::ns) x=if (CP A9 p n x).2≠0 then CP A9 p n x else Fw A9 ps ns (CP A9 p n x).1:=by rw[Fw];rfl
mutual
theorem eu{A9:Nat}(hl:A9<2 ^ 31):∀(p:F6)(nd:Nat)(x:PS),x.s.Ok->nd<x.s.l.length->p.pat=true->Tu x (CP A9 p nd x).1
 |.mk k lo hi name n s ks,nd,x,ok,hn,hp=>by
   have hp':=hp;rw[F6.ut,z8q,zdq]at hp';obtain⟨h1,h2⟩:=hp';obtain⟨RA,Yh⟩:=F6.A2D h1;simp only[F6.Gb,F6.S9]at RA Yh h2;rw[CP];have f5:=ok.five;split
   ·exact⟨ok,Y3.refl _,λg=>g⟩
   ·split
    ·refine⟨ok,Y3.refl _,λg m hm=>?_⟩;rcases zcq.1 hm with hm | hm
     ·exact g m hm
     ·rw[z6q.1 hm];exact hn
    ·split
     ·rename_i k7;obtain⟨a1,a2,a3,a4⟩:=NK ok hl (lo:=lo) (hi:=hi) (n:=nd) (k:=7) (many:=2) (.inl ⟨rfl,rfl⟩) hn;generalize x.made A9 lo hi nd 7 2=q at a1 a2 a3 a4 ⊢;split
      ·exact a1
      ·rename_i g;exact a1.trans (TU hl ks q.2.1 q.1 a1.ok (by rw[a4 (Classical.not_not.1 g),RA (.inl k7)];exact z1q _) a2 h2)
     ·split
      ·rename_i k89;obtain⟨a1,a2,a3,a4⟩:=NK ok hl (lo:=lo) (hi:=hi) (n:=nd) (k:=8) (many:=1) (.inr ⟨rfl,rfl⟩) hn;generalize x.made A9 lo hi nd 8 1=q at a1 a2 a3 a4 ⊢;split
       ·exact a1
       ·rename_i g;have k9:k=9:=by
         rcases k89 with h | h
         ·exact absurd (.inr h) g
         ·exact h
        have q0:q.2.2.2=0:=Classical.not_not.1 λh=>g (.inl h);refine a1.trans (TU hl ks _ q.1 a1.ok (by rw[zEq,a4 q0,RA (.inr k9)];exact z1q _) (λy hy=>?_) h2);rcases zcq.1 hy with hy | hy
        ·exact a2 y hy
        ·rw[z6q.1 hy];exact a3
      ·exact iK ok hn (by omega)
theorem TU{A9:Nat}(hl:A9<2 ^ 31):∀(ps:List F6)(ns:List Nat)(x:PS),x.s.Ok->ps.length<=ns.length->(∀n∈ns,n<x.s.l.length)->(∀p∈ps,p.pat=true)->Tu x (Fw A9 ps ns x).1
 |[],ns,x,ok,_,_,_=>by rw[Fw];exact⟨ok,Y3.refl _,λg=>g⟩
 |p::ps,[],x,ok,J5,_,_=>by simp at J5
 |p::ps,n::ns,x,ok,J5,hn,hp=>by
   have a:=eu hl p n x ok (hn n (z3q ..)) (hp p (z3q ..));rw[A2H];by_cases g:(CP A9 p n x).2≠0
   ·rw[C9 g];exact a
   ·rw[A7 g];exact a.trans (TU hl ps ns _ a.ok (by simpa using J5) (λm hm=>z0q (hn m (z2q _ hm)) a.ext.le) λq hq=>hp q (z2q _ hq))
end
end Go.Su

/-
 INFERENCE keeps the store right: expressions.
-/
namespace Go.Su
set_option linter.defProp false
def A9G{has must:Bool}{t:Ty}(h:VC has must t=true):(t.E8≠0->t.rc)/\(must=true->t.rc):=by
 unfold VC at h;split at h
 ·rename_i hn;refine⟨λhk=>?_,λhm=>by rw[hm]at h;cases h⟩;rw[Ty.A6X]at hn;rw[hn]at hk;exact absurd rfl hk
 ·rw[z8q]at h;have:=h.2;unfold Ty.closed at this;rw[z8q]at this;exact⟨λ_=>this,λ_=>this⟩
variable {e:Ex}
def A2C(h:e.one=true):e.bD=true:=by unfold Ex.one Ex.uk Ex.ul Ex.um Ex.uo Ex.uq at h;simp only[z8q]at h;exact h.2.2.2.2.2.2
def Ex.uh(h:e.right=true):(e.a.E8≠0->e.a.rc)/\(e.E8=15->e.a.rc):=by have:=A2C (Ex.Xz h);unfold Ex.bD at this;rw[z8q]at this;obtain⟨h1,h2⟩:=A9G this.1;exact⟨h1,λhk=>h2 (by unfold Ae;exact decide_eq_true hk)⟩
def Ex.A6Y(h:e.right=true):e.b.E8≠0->e.b.rc:=by have:=A2C (Ex.Xz h);unfold Ex.bD Ex.oC at this;simp only[z8q]at this;exact(A9G this.2.1).1
def Ex.B1j(h:e.right=true){p:F6}(hp:p∈e.J7):p.right=true:=by have:=A2C (Ex.Xz h);unfold Ex.bD Ex.oC Ex.zm at this;simp only[z8q,zdq]at this;exact this.2.2 p hp
def Ex.kV(h:e.right=true):1<=e.E8/\e.E8<=16/\(e.D5.length:Int)=M6 e.E8 e.J7.length:=by have:=Ex.Xz h;unfold Ex.one JQ at this;simp only[z8q,I4]at this;exact⟨this.1.1.1.1.1,this.1.1.1.1.2,this.1.1.2⟩
def Ex.Cg{i:Nat}(h:i<e.D5.length):e.kd i∈e.D5:=by unfold Ex.kd;rw[z5q,z4q h];exact z9q h
theorem Ex.kU{i:Nat}(h:i<e.D5.length):e.D5[i]=e.kd i:=by unfold Ex.kd;rw[z5q,z4q h];rfl
def EX(R:Rec)(e:Ex):Prop:=∀(A9:Nat)(l:List EN)(w:W),A9+e.size<2 ^ 30->AF w->AB w.s.l.length l->(R e A9 l w).1.s.Ok/\Y3 w.s (R e A9 l w).1.s/\(R e A9 l w).2.1<(R e A9 l w).1.s.l.length/\DD.lt (R e A9 l w).1.s.l.length (R e A9 l w).2.2
section
variable {R:Rec}{w:W}{A9:Nat}{l:List EN}
def A6E(hR:EX R e)(hl:A9+e.size<2 ^ 30)(h:AF w)(hE:AB w.s.l.length l):Good w (L6 R w e A9 l).1/\(L6 R w e A9 l).2<(L6 R w e A9 l).1.s.l.length:=by
 unfold L6;split
 ·exact⟨Good.refl h,by have:=h.ok.five;simp only;omega⟩
 ·obtain⟨a,c,d,g⟩:=hR A9 l w hl h hE;refine⟨⟨⟨a,λx hx=>z0q (h.ty x hx) c.le,⟨λx hx=>z0q (h.vs.1 x hx) c.le,h.vs.2⟩,?_⟩,c⟩,d⟩;refine A2A.2 λk hk=>?_;rcases zcq.1 hk with hk | hk
  ·exact DD.A9C c.le k (A2A.1 h.ks k hk)
  ·rw[z6q.1 hk];exact g
def SA(w:W)(q:W×Nat):Prop:=Good w q.1/\q.2<q.1.s.l.length
def Good.n{w w1:W}{q:W×Nat}(h:Good w w1)(k:SA w1 q):SA w q:=⟨h.trans k.1,k.2⟩
def Good.lt{w w':W}(h:Good w w'){n:Nat}(hn:n<w.s.l.length):n<w'.s.l.length:=z0q hn h.ext.le
def W9(hR:EX R e)(hl:A9+e.size<2 ^ 30)(h:AF w)(hE:AB w.s.l.length l):SA w (L6 R w e A9 l):=A6E hR hl h hE
def B2c(h0:EX R (e.kd 0))(h1:EX R (e.kd 1))(l0:A9+(e.kd 0).size<2 ^ 30)(l1:A9+(e.kd 1).size<2 ^ 30)(h:AF w)(hE:AB w.s.l.length l):SA w (QZ R w e A9 l):=by obtain⟨a1,a2⟩:=W9 h0 l0 h hE;unfold QZ;simp only;generalize L6 R w (e.kd 0) A9 l=a at a1 a2 ⊢;obtain⟨b1,b2⟩:=W9 h1 l1 a1.i (hE.mono a1.ext.le);generalize L6 R a.1 (e.kd 1) A9 l=b at b1 b2 ⊢;obtain⟨v1,v2⟩:=BM b1.i (show A9<2 ^ 31 by omega);generalize b.1.fresh A9=v at v1 v2 ⊢;have t1:=JM v1 (l:=[v.2]) (by simpa using v2);have g1:=V8 t1.i (a:=a.2) (b:=v.2) (z0q (b1.lt a2) v1.ext.le) v2 (e.kd 0);generalize (v.1.Aq [v.2]).agree a.2 v.2 (e.kd 0)=w1 at g1 ⊢;obtain⟨n1,n2⟩:=Fs g1.i (k:=8) (x:=v.2) (y:=0) (.inr (.inl rfl)) (g1.lt v2) (λh=>absurd rfl h);generalize w1.made 8 v.2 0=n at n1 n2 ⊢;have g2:=V8 n1.i (a:=b.2) (b:=n.2) (n1.lt (g1.lt (v1.lt b2))) n2 (e.kd 1);exact⟨((((a1.trans b1).trans t1).trans g1).trans n1).trans g2,g2.lt n2⟩
def A27{f a:Nat}(hl:A9<2 ^ 31)(h:AF w)(fl:f<w.s.l.length)(al:a<w.s.l.length):SA w (gG w f a e A9):=by
 have f5:=h.ok.five;unfold gG;split
 ·exact⟨Good.refl h,by simp only;omega⟩
 split
 ·have g:=V8 h (a:=a) (b:=4) al (by omega) (e.kd 1);exact⟨g,g.lt (by omega)⟩
 split
 ·simp only
  obtain⟨v1,v2⟩:=BM h hl;generalize w.fresh A9=v at v1 v2 ⊢;obtain⟨u1,u2⟩:=BM v1.i hl;generalize v.1.fresh A9=u at u1 u2 ⊢;obtain⟨m1,m2⟩:=Fs u1.i (k:=9) (x:=v.2) (y:=u.2) (.inr (.inr rfl)) (u1.lt v2) (λ_=>u2);generalize u.1.made 9 v.2 u.2=m at m1 m2 ⊢;have g1:=V8 m1.i (a:=f) (b:=m.2) (m1.lt (u1.lt (v1.lt fl))) m2 (e.kd 0);have g2:=V8 g1.i (a:=a) (b:=v.2) (g1.lt (m1.lt (u1.lt (v1.lt al)))) (g1.lt (m1.lt (u1.lt v2))) (e.kd 1);exact⟨(((v1.trans u1).trans m1).trans g1).trans g2,g2.lt (g1.lt (m1.lt u2))⟩
 split
 ·rename_i k9;have kn:=h.ok.YM (h.ok.Fu fl);rw[k9]at kn;have kl:∀i,i<2->(w.s.I6 (w.s.root f)).getD i 0<w.s.l.length:=by
   intro i hi;have:i<(w.s.I6 (w.s.root f)).length:=by rw[kn];exact hi
   rw[z5q,z4q this];exact h.ok.Ou fl (z9q this)
  have g:=V8 h (a:=a) (b:=(w.s.I6 (w.s.root f)).getD 0 0) al (kl 0 (by omega)) (e.kd 1);exact⟨g,g.lt (kl 1 (by omega))⟩
 ·exact⟨(Good.refl h).fails _ _,by rw[AQ];simp only;omega⟩
def B30(h0:EX R (e.kd 0))(h1:EX R (e.kd 1))(l0:A9+(e.kd 0).size<2 ^ 30)(l1:A9+(e.kd 1).size<2 ^ 30)(h:AF w)(hE:AB w.s.l.length l):SA w (Vx R w e A9 l):=by obtain⟨a1,a2⟩:=W9 h0 l0 h hE;unfold Vx;simp only;generalize L6 R w (e.kd 0) A9 l=f at a1 a2 ⊢;obtain⟨b1,b2⟩:=W9 h1 l1 a1.i (hE.mono a1.ext.le);generalize L6 R f.1 (e.kd 1) A9 l=a at b1 b2 ⊢;exact(a1.trans b1).n (A27 (by omega) b1.i (b1.lt a2) b2)
def B4J(h0:EX R (e.kd 0))(h1:EX R (e.kd 1))(l0:A9+1+(e.kd 0).size<2 ^ 30)(l1:A9+(e.kd 1).size<2 ^ 30)(ha:e.a.E8≠0->e.a.rc)(h:AF w)(hE:AB w.s.l.length l):SA w (WN R w e A9 l):=by
 unfold WN;split
 ·rename_i k;obtain⟨a1,a2⟩:=W9 h0 (show A9+(e.kd 0).size<2 ^ 30 by omega) h hE;simp only;generalize L6 R w (e.kd 0) A9 l=a at a1 a2 ⊢;obtain⟨n1,n2⟩:=WR a1.i (ha k);generalize a.1.put e.a=n at n1 n2 ⊢;have g:=V8 n1.i (a:=a.2) (b:=n.2) (n1.lt a2) n2 (e.kd 0);have ag:=(a1.trans n1).trans g;exact ag.n (W9 h1 l1 g.i ((hE.mono ag.ext.le).app (AB.one (g.lt n2))))
 split
 ·obtain⟨a1,a2⟩:=W9 h0 (A9:=A9+1) (by omega) h hE;simp only;generalize L6 R w (e.kd 0) (A9+1) l=a at a1 a2 ⊢;split
  ·exact a1.n (W9 h1 l1 a1.i ((hE.mono a1.ext.le).app (AB.one a2)))
  ·obtain⟨c1,c2⟩:=EY a1.i (n:=a.2) (A9:=A9) a2;generalize a.1.above a.2 A9=c at c1 c2 ⊢;have v:=Ta c1 c2;have av:=a1.trans v;exact av.n (W9 h1 l1 v.i ((hE.mono av.ext.le).app λx hx=>by rw[z6q.1 hx];exact⟨v.lt a2,c2.1⟩))
 ·obtain⟨a1,a2⟩:=W9 h0 (show A9+(e.kd 0).size<2 ^ 30 by omega) h hE;exact a1.n (W9 h1 l1 a1.i ((hE.mono a1.ext.le).app (AB.one a2)))
def B40(h0:EX R (e.kd 0))(h1:EX R (e.kd 1))(l0:A9+1+(e.kd 0).size<2 ^ 30)(l1:A9+(e.kd 1).size<2 ^ 30)(ha:e.a.E8≠0->e.a.rc)(hb:e.b.E8≠0->e.b.rc)(h:AF w)(hE:AB w.s.l.length l):SA w (WS R w e A9 l):=by
 unfold WS;simp only;obtain⟨p1,p2⟩:=Qg h (A9:=A9+1) ha (by omega);generalize w.AP e.a (A9+1)=p at p1 p2 ⊢;obtain⟨r1,r2⟩:=Qg p1.i (A9:=A9+1) hb (by omega);generalize p.1.AP e.b (A9+1)=r at r1 r2 ⊢;obtain⟨f1,f2⟩:=Fs r1.i (k:=9) (x:=p.2) (y:=r.2) (.inr (.inr rfl)) (r1.lt p2) (λ_=>r2);generalize r.1.made 9 p.2 r.2=f at f1 f2 ⊢;have pf:=(p1.trans r1).trans f1;obtain⟨b1,b2⟩:=W9 h0 (A9:=A9+1) (l:=l++[⟨e.name,f.2,[]⟩,⟨e.arg,p.2,[]⟩]) (by omega) f1.i ((hE.mono pf.ext.le).app λx hx=>by
  simp only[zfq,zCq,or_false]at hx;rcases hx with rfl | rfl
  ·exact⟨f2,by simp⟩
  ·exact⟨f1.lt (r1.lt p2),by simp⟩)
 generalize L6 R f.1 (e.kd 0) (A9+1) (l++[⟨e.name,f.2,[]⟩,⟨e.arg,p.2,[]⟩])=b at b1 b2 ⊢;have g:=V8 b1.i (a:=b.2) (b:=r.2) b2 (b1.lt (f1.lt r2)) (e.kd 0);generalize b.1.agree b.2 r.2 (e.kd 0)=w1 at g ⊢;have pg:=(pf.trans b1).trans g;have fl:=g.lt (b1.lt f2);split
 ·exact pg.n (W9 h1 l1 g.i ((hE.mono pg.ext.le).app (AB.one fl)))
 ·obtain⟨c1,c2⟩:=EY g.i (n:=f.2) (A9:=A9) fl;generalize w1.above f.2 A9=c at c1 c2 ⊢;have v:=Ta c1 c2;have av:=pg.trans v;exact av.n (W9 h1 l1 v.i ((hE.mono av.ext.le).app λx hx=>by rw[z6q.1 hx];exact⟨v.lt fl,c2.1⟩))
def B2b(h0:EX R (e.kd 0))(h1:EX R (e.kd 1))(h2:EX R (e.kd 2))(l0:A9+(e.kd 0).size<2 ^ 30)(l1:A9+(e.kd 1).size<2 ^ 30)(l2:A9+(e.kd 2).size<2 ^ 30)(h:AF w)(hE:AB w.s.l.length l):SA w (QY R w e A9 l):=by unfold QY;simp only;obtain⟨c1,c2⟩:=W9 h0 l0 h hE;generalize L6 R w (e.kd 0) A9 l=c at c1 c2 ⊢;have g0:=V8 c1.i (a:=c.2) (b:=1) c2 (by have:=c1.i.ok.five;omega) (e.kd 0);have cg:=c1.trans g0;generalize c.1.agree c.2 1 (e.kd 0)=w0 at g0 cg ⊢;obtain⟨a1,a2⟩:=W9 h1 l1 g0.i (hE.mono cg.ext.le);generalize L6 R w0 (e.kd 1) A9 l=a at a1 a2 ⊢;have ca:=cg.trans a1;obtain⟨b1,b2⟩:=W9 h2 l2 a1.i (hE.mono ca.ext.le);generalize L6 R a.1 (e.kd 2) A9 l=b at b1 b2 ⊢;obtain⟨v1,v2⟩:=BM b1.i (show A9<2 ^ 31 by omega);generalize b.1.fresh A9=v at v1 v2 ⊢;have t1:=JM v1 (l:=[v.2]) (by simpa using v2);have g1:=V8 t1.i (a:=a.2) (b:=v.2) (v1.lt (b1.lt a2)) v2 (e.kd 1);have g2:=V8 g1.i (a:=b.2) (b:=v.2) (g1.lt (v1.lt b2)) (g1.lt v2) (e.kd 2);exact⟨(((ca.trans b1).trans t1).trans g1).trans g2,g2.lt (g1.lt v2)⟩
def dG{r v:Nat}(hl:A9<2 ^ 31):∀(qs:List (F6×Ex))(w:W),(∀a∈qs,EX R a.2/\A9+a.2.size<2 ^ 30/\a.1.pat=true)->AF w->AB w.s.l.length l->v<w.s.l.length->r<w.s.l.length->SA w (E_ R A9 l v r qs w)
 |[],w,_,h,hE,hv,hr=>⟨Good.refl h,hr⟩
 | (p,k)::qs,w,ha,h,hE,hv,hr=>by
   obtain⟨h1,h2,h3⟩:=ha _ (z3q ..);rw[E_];split
   ·exact⟨Good.refl h,by have:=h.ok.five;simp only;omega⟩
   ·simp only
    have P:=eu hl p v ⟨w.s,[],[],U1⟩ h.ok hv h3;generalize CP A9 p v ⟨w.s,[],[],U1⟩=q at P ⊢;have g0:Good w ({ w with s:=q.1.s }:W):=h.s (w':={ w with s:=q.1.s }) P.ok P.ext rfl rfl rfl;have g1:=g0.fails q.2 q.1.bad;have hs:(({ w with s:=q.1.s }:W).fails q.2 q.1.bad).s=q.1.s:=AQ ..;generalize ({ w with s:=q.1.s }:W).fails q.2 q.1.bad=w1 at g1 hs ⊢;have MP:AB w1.s.l.length (l++if q.2≠0 then[]else List.zipWith (λs n=>(⟨s,n,[]⟩:EN)) q.1.names q.1.nodes):=by
     refine(hE.mono g1.ext.le).app ?_;split
     ·intro x hx;cases hx
     ·intro x hx;obtain⟨j,hj,rfl⟩:=zrq.1 hx;simp only[zUq]at hj;rw[zSq];exact⟨by rw[hs];exact P.nd (by simp) _ (z9q (by omega)),by simp⟩
    obtain⟨b1,b2⟩:=W9 h1 h2 g1.i MP;generalize L6 R w1 k A9 (l++if q.2≠0 then[]else List.zipWith (λs n=>(⟨s,n,[]⟩:EN)) q.1.names q.1.nodes)=b at b1 b2 ⊢;have g2:=V8 b1.i (a:=b.2) (b:=r) b2 (b1.lt (g1.lt hr)) k;have gg:=(g1.trans b1).trans g2;exact gg.n (dG hl qs _ (λa h=>ha a (z2q _ h)) g2.i (hE.mono gg.ext.le) (gg.lt hv) (gg.lt hr))
def B08(h0:EX R (e.kd 0))(hk:∀k∈e.D5,EX R k/\A9+k.size<2 ^ 30)(hp:∀p∈e.J7,p.pat=true)(l0:A9+(e.kd 0).size<2 ^ 30)(h:AF w)(hE:AB w.s.l.length l):SA w (MX R w e A9 l):=by unfold MX;simp only;obtain⟨a1,a2⟩:=W9 h0 l0 h hE;generalize L6 R w (e.kd 0) A9 l=a at a1 a2 ⊢;obtain⟨v1,v2⟩:=BM a1.i (show A9<2 ^ 31 by omega);generalize a.1.fresh A9=v at v1 v2 ⊢;have g:=V8 v1.i (a:=a.2) (b:=v.2) (v1.lt a2) v2 (e.kd 0);generalize v.1.agree a.2 v.2 (e.kd 0)=w0 at g ⊢;obtain⟨r1,r2⟩:=BM g.i (show A9<2 ^ 31 by omega);generalize w0.fresh A9=r at r1 r2 ⊢;have t:=JM r1 (l:=[v.2,r.2]) (by intro x hx;simp only[zfq,zCq,or_false]at hx;rcases hx with rfl | rfl;exact r1.lt (g.lt v2);exact r2);have gg:=(((a1.trans v1).trans g).trans t);refine gg.n (dG (by omega) _ _ (λx hx=>?_) t.i (hE.mono gg.ext.le) (t.lt (g.lt v2)) r2);have:=znq hx;obtain⟨k1,k2⟩:=hk x.2 (zHq this.2);exact⟨k1,k2,hp x.1 this.1⟩
def zo{want:Nat}(hw:want<5):∀(ks:List Ex)(w:W),(∀k∈ks,EX R k/\A9+k.size<2 ^ 30)->AF w->AB w.s.l.length l->Good w (Ho R A9 l want ks w)
 |[],w,_,h,_=>Good.refl h
 |k::ks,w,hk,h,hE=>by obtain⟨h1,h2⟩:=hk k (z3q ..);obtain⟨a1,a2⟩:=W9 h1 h2 h hE;rw[Ho];have g:=V8 a1.i (a:=(L6 R w k A9 l).2) (b:=want) a2 (by have:=a1.i.ok.five;omega) k;have ag:=a1.trans g;exact ag.trans (zo hw ks _ (λx hx=>hk x (z2q _ hx)) g.i (hE.mono ag.ext.le))
def B15(hr:e.right=true)(hk:∀k∈e.D5,EX R k)(hl:A9+e.size<2 ^ 30)(h:AF w)(hE:AB w.s.l.length l):SA w (T9 R w e A9 l):=by
 obtain⟨k1,k2,k3⟩:=Ex.kV hr;have f5:=h.ok.five;have sz:∀k∈e.D5,A9+1+k.size<2 ^ 30:=λk hk=>by have:=Ex.Cy hk;omega
 have kd:∀i,i<e.D5.length->EX R (e.kd i)/\A9+1+(e.kd i).size<2 ^ 30/\A9+(e.kd i).size<2 ^ 30:=λi hi=>by have m:=Ex.Cg hi;have:=sz _ m;exact⟨hk _ m,this,by omega⟩
 have na:=Ex.uh hr;have nb:=Ex.A6Y hr;have lb:A9<2 ^ 31:=by omega
 unfold T9;by_cases g:e.E8=1
 ·rw[C9 g];exact B2Y h lb hE
 rw[A7 g];by_cases g:e.E8=2\/e.E8=3\/e.E8=4\/e.E8=5
 ·rw[C9 g];exact⟨Good.refl h,by simp only;omega⟩
 rw[A7 g];by_cases g:e.E8=6
 ·rw[C9 g];have n2:e.D5.length=2:=by simp[g,M6]at k3;omega
  obtain⟨x1,x2,x3⟩:=kd 0 (by omega);obtain⟨y1,y2,y3⟩:=kd 1 (by omega);obtain⟨a1,a2⟩:=W9 x1 x3 h hE;simp only;generalize L6 R w (e.kd 0) A9 l=a at a1 a2 ⊢;obtain⟨b1,b2⟩:=W9 y1 y3 a1.i (hE.mono a1.ext.le);generalize L6 R a.1 (e.kd 1) A9 l=b at b1 b2 ⊢;exact(a1.trans b1).n (Fs b1.i (k:=7) (.inl rfl) (b1.lt a2) (λ_=>b2))
 rw[A7 g];by_cases g:e.E8=7
 ·rw[C9 g];obtain⟨v1,v2⟩:=BM h lb;generalize w.fresh A9=v at v1 v2 ⊢;have t1:=JM v1 (l:=[v.2]) (by simpa using v2);exact t1.n (Fs t1.i (k:=8) (.inr (.inl rfl)) v2 (λh=>absurd rfl h))
 rw[A7 g];by_cases g:e.E8=8
 ·rw[C9 g];have n2:e.D5.length=2:=by simp[g,M6]at k3;omega
  obtain⟨x1,x2,x3⟩:=kd 0 (by omega);obtain⟨y1,y2,y3⟩:=kd 1 (by omega);exact B2c x1 y1 x3 y3 h hE
 rw[A7 g];by_cases g:e.E8=9
 ·rw[C9 g];have n1:e.D5.length=1:=by simp[g,M6]at k3;omega
  obtain⟨x1,x2,x3⟩:=kd 0 (by omega);obtain⟨p1,p2⟩:=Qg h (A9:=A9) na.1 lb;simp only;generalize w.AP e.a A9=p at p1 p2 ⊢;obtain⟨b1,b2⟩:=W9 x1 x3 p1.i ((hE.mono p1.ext.le).app (AB.one (s:=e.name) p2));exact(p1.trans b1).n (Fs b1.i (k:=9) (.inr (.inr rfl)) (b1.lt p2) (λ_=>b2))
 rw[A7 g];by_cases g:e.E8=10
 ·rw[C9 g];have n2:e.D5.length=2:=by simp[g,M6]at k3;omega
  obtain⟨x1,x2,x3⟩:=kd 0 (by omega);obtain⟨y1,y2,y3⟩:=kd 1 (by omega);exact B30 x1 y1 x3 y3 h hE
 rw[A7 g];by_cases g:e.E8=11
 ·rw[C9 g];have n2:e.D5.length=2:=by simp[g,M6]at k3;omega
  obtain⟨x1,x2,x3⟩:=kd 0 (by omega);obtain⟨y1,y2,y3⟩:=kd 1 (by omega);exact B4J x1 y1 x2 y3 na.1 h hE
 rw[A7 g];by_cases g:e.E8=12
 ·rw[C9 g];have n2:e.D5.length=2:=by simp[g,M6]at k3;omega
  obtain⟨x1,x2,x3⟩:=kd 0 (by omega);obtain⟨y1,y2,y3⟩:=kd 1 (by omega);exact B40 x1 y1 x2 y3 na.1 nb h hE
 rw[A7 g];by_cases g:e.E8=13
 ·rw[C9 g];have n3:e.D5.length=3:=by simp[g,M6]at k3;omega
  obtain⟨x1,x2,x3⟩:=kd 0 (by omega);obtain⟨y1,y2,y3⟩:=kd 1 (by omega);obtain⟨z1,z2,z3⟩:=kd 2 (by omega);exact B2b x1 y1 z1 x3 y3 z3 h hE
 rw[A7 g];by_cases g:e.E8=14
 ·rw[C9 g];have n1:0<e.D5.length:=by simp[g,M6]at k3;omega
  obtain⟨x1,x2,x3⟩:=kd 0 n1;refine B08 x1 (λk FR=>⟨hk k FR,by have:=sz k FR;omega⟩) (λp hp=>?_) x3 h hE;have:=Ex.B1j hr hp;unfold F6.right at this;rw[z8q]at this;exact this.1
 rw[A7 g];by_cases g:e.E8=15
 ·rw[C9 g];have n1:e.D5.length=1:=by simp[g,M6]at k3;omega
  obtain⟨x1,x2,x3⟩:=kd 0 (by omega);obtain⟨a1,a2⟩:=W9 x1 x3 h hE;simp only;generalize L6 R w (e.kd 0) A9 l=a at a1 a2 ⊢;obtain⟨n1,n2⟩:=WR a1.i (na.2 g);generalize a.1.put e.a=n at n1 n2 ⊢;have g:=V8 n1.i (a:=a.2) (b:=n.2) (n1.lt a2) n2 (e.kd 0);exact⟨(a1.trans n1).trans g,g.lt n2⟩
 ·rw[A7 g];have g:=zo (R:=R) (A9:=A9) (l:=l) (want:=if e.op=7 then 2 else 0) (by split<;>omega) e.D5 w (λk FR=>⟨hk k FR,by have:=sz k FR;omega⟩) h hE;exact⟨g,g.lt (by simp only;split<;>omega)⟩
end
def Qb:∀(f:Nat)(e:Ex),e.right=true->EX (M5 f) e
 |0,e,hr=>λA9 l w hl h hE=>⟨h.ok,Y3.refl _,by have:=h.ok.five;simp only[M5];omega,by simp only[M5,DD.lt,DD.Yj];have:=h.ok.five;exact⟨by omega,by simp,⟨by simp,by simp⟩,trivial⟩⟩
 |f+1,e,hr=>λA9 l w hl h hE=>by have h0:AF { w with types:=[],vars:=[],D5:=[] }:=⟨h.ok,by simp,⟨by simp,by simp⟩,trivial⟩;obtain⟨a1,a2⟩:=B15 (R:=M5 f) (A9:=A9) (l:=l) hr (λk hk=>Qb f k (Ex.ED hr hk)) hl h0 hE;rw[M5];simp only;generalize T9 (M5 f) { w with types:=[],vars:=[],D5:=[] } e A9 l=q at a1 a2 ⊢;exact⟨a1.i.ok,a1.ext,a2,by rw[DD.lt];exact⟨a2,a1.i.ty,a1.i.vs,a1.i.ks⟩⟩
end Go.Su

/-
 INFERENCE: what is read.
-/
namespace Go.Su
set_option linter.defProp false
def A0b{m:Nat}:∀(ts:List NT)(k:Nat),k<=m+1->k<=NT.HY m ts k
 |[],k,_=>by rw[NT.HY];exact z1q _
 |t::ts,k,h=>by rw[NT.HY];refine z7q ?_ (A0b ts _ (yaq ..));omega
def B3t(m:Nat)(t:NT):1<=t.BN m:=by cases t;rw[NT.BN];exact A0b _ _ (by omega)
def B5l{m:Nat}(t:NT):t.BN m<=m->t.ty.size=t.BN m:=by
 induction t using NT.ind with
 |h r k ts ih=>
   intro h;rw[NT.BN]at h ⊢;rw[NT.ty,NT.QG,Ty.size_eq,Ty.S9];have key:∀(us:List NT),(∀u∈us,u∈ts)->∀c,c<=m+1->NT.HY m us c<=m->NT.HY m us c=c+((us.map NT.ty).map Ty.size).sum:=by
    intro us;induction us with
    |nil=>intro _ c _ _;simp[NT.HY]
    |cons u us ihu=>
      intro hs c hc J5;rw[NT.HY]at J5 ⊢;have g:=A0b us (min (c+u.BN m) (m+1)) (yaq ..);have hm:c+u.BN m<=m:=by omega
      have e:min (c+u.BN m) (m+1)=c+u.BN m:=by omega
      rw[e]at J5 ⊢;rw[ihu (λw hw=>hs w (z2q _ hw)) _ (by omega) J5,zbq,zbq,zgq,ih u (hs u (z3q ..)) (by omega)];omega
   exact(key ts (λu hu=>hu) 1 (by omega) h).symm
namespace W
noncomputable def rd(w:W)(n:Nat):W:=({ w with s:=(w.s.read n).1 }:W).fails (w.s.read n).2.2 U1
end W
def lC{S:E9}(ok:S.Ok)(n:Nat):(S.read n).1.Ok/\(S.read n).1.l=S.l/\(S.read n).1.J6=S.J6/\S.cnt<=(S.read n).1.cnt/\((S.read n).2.2=0->S.cnt+1<=(S.read n).1.cnt/\(S.read n).2.1.size<=65536/\(S.read n).2.1=(S.I8 n).ty):=by
 have h1:=ok.cm;have h2:=ok.mm;unfold E9.read;split
 ·exact⟨ok,rfl,rfl,z1q _,λh=>by simp at h⟩
 ·rename_i g;have p:=B3t (S.mx-S.cnt) (S.I8 n);refine⟨⟨λk hk=>?_,ok.base,?_,?_,ok.mm,ok.ki⟩,rfl,rfl,by simp,λ_=>⟨by simp only;omega,?_,rfl⟩⟩
  ·obtain⟨t,ht⟩:=ok.wf k hk;exact⟨t,ht.like (show V6 S { S with cnt:=S.cnt+(S.I8 n).BN (S.mx-S.cnt) }from V6.refl S)⟩
  ·have:=ok.lc;simp only;omega
  ·simp only;omega
  ·simp only
   rw[B5l (m:=S.mx-S.cnt) _ (y9q.1 g)];omega
def oI{w:W}(ok:w.s.Ok)(n:Nat):(w.rd n).s.Ok/\(w.rd n).s.l=w.s.l/\w.s.cnt<=(w.rd n).s.cnt/\((w.rd n).err=0->w.err=0/\(w.s.read n).2.2=0/\w.s.cnt+1<=(w.rd n).s.cnt):=by
 obtain⟨r1,r2,r3,r4,r5⟩:=lC ok n;unfold W.rd;rw[AQ];refine⟨r1,r2,r4,λh=>?_⟩;unfold W.fails at h;split at h
 ·rename_i g;exact absurd h g.2
 ·rename_i g;have h0:w.err=0:=h;have e0:(w.s.read n).2.2=0:=Classical.not_not.1 λh=>g ⟨h0,h⟩;exact⟨h0,e0,(r5 e0).1⟩
mutual
def DD.cnt:DD->Nat
 |.mk _ _ _ ks=>1+DD.EJ ks
def DD.EJ:List DD->Nat
 |[]=>0
 |k::ks=>k.cnt+DD.EJ ks
end
def lh:∀ks:List DD,ks.length<=DD.EJ ks
 |[]=>z1q _
 |k::ks=>by
   have:=lh ks;have:1<=k.cnt:=by cases k;rw[DD.cnt];omega
   rw[DD.EJ,zxq];omega
structure ig(w w':W):Prop where
 ok:w'.s.Ok
 l:w'.s.l=w.s.l
 cnt:w.s.cnt<=w'.s.cnt
def ig.trans{a b c:W}(h:ig a b)(k:ig b c):ig a c:=⟨k.ok,k.l.trans h.l,z7q h.cnt k.cnt⟩
mutual
theorem eX:∀(d:DD)(w:W),w.s.Ok->ig w (AY d w)/\((AY d w).err=0->w.err=0/\w.s.cnt+d.cnt<=(AY d w).s.cnt)
 |.mk n ts vs ks,w,ok=>by
   rw[AY,DD.cnt];split
   ·rename_i g;exact⟨⟨ok,rfl,z1q _⟩,λh=>absurd h g⟩
   ·obtain⟨a1,a2,a3,a4⟩:=oI ok n;have e:(({ w with s:=(w.s.read n).1 }:W).fails (w.s.read n).2.2 U1)=w.rd n:=rfl;rw[e];obtain⟨c1,c2⟩:=Xv ks (w.rd n) a1;refine⟨(⟨a1,a2,a3⟩:ig w (w.rd n)).trans c1,λh=>?_⟩;obtain⟨d1,d2⟩:=c2 h;obtain⟨f1,f2,f3⟩:=a4 d1;exact⟨f1,by omega⟩
theorem Xv:∀(ks:List DD)(w:W),w.s.Ok->ig w (K_ ks w)/\((K_ ks w).err=0->w.err=0/\w.s.cnt+DD.EJ ks<=(K_ ks w).s.cnt)
 |[],w,ok=>by rw[K_,DD.EJ];exact⟨⟨ok,rfl,z1q _⟩,λh=>⟨h,z1q _⟩⟩
 |k::ks,w,ok=>by rw[K_,DD.EJ];obtain⟨a1,a2⟩:=eX k w ok;obtain⟨c1,c2⟩:=Xv ks _ a1.ok;refine⟨a1.trans c1,λh=>?_⟩;obtain⟨d1,d2⟩:=c2 h;obtain⟨e1,e2⟩:=a2 d1;exact⟨e1,by omega⟩
end
inductive Vo:K8->Prop where
 |mk (d:K8):(∀t∈d.types,t.size<=65536)->d.types.length<=70000->d.vars.length<2 ^ 29->d.D5.length<=70000->(∀k∈d.D5,Vo k)->Vo d
def oJ:∀(ts:List Nat)(w:W),w.s.Ok->ig w (Az ts w).1/\((Az ts w).1.err=0->w.err=0/\w.s.cnt+(Az ts w).2.length<=(Az ts w).1.s.cnt/\∀t∈(Az ts w).2,t.size<=65536)
 |[],w,ok=>⟨⟨ok,rfl,z1q _⟩,λh=>⟨h,z1q _,by simp[Az]⟩⟩
 |n::ts,w,ok=>by
   rw[Az];split
   ·rename_i g;exact⟨⟨ok,rfl,z1q _⟩,λh=>absurd h g⟩
   ·obtain⟨a1,a2,a3,a4⟩:=oI ok n;have e:(({ w with s:=(w.s.read n).1 }:W).fails (w.s.read n).2.2 U1)=w.rd n:=rfl;rw[e];obtain⟨c1,c2⟩:=oJ ts (w.rd n) a1;refine⟨(⟨a1,a2,a3⟩:ig w (w.rd n)).trans c1,λh=>?_⟩;obtain⟨d1,d2,d3⟩:=c2 h;obtain⟨f1,f2,f3⟩:=a4 d1;refine⟨f1,by simp only[zxq];omega,λt ht=>?_⟩;rcases zfq.1 ht with rfl | ht
    ·exact((lC ok n).2.2.2.2 f2).2.1
    ·exact d3 t ht
mutual
theorem zy:∀(d:DD)(w:W)(n:Nat),w.s.Ok->DD.lt n d->d.cnt<=70000->ig w (BP d w).1/\(w.err≠0->(BP d w).1=w)/\((BP d w).1.err=0->w.err=0/\Vo (BP d w).2)
 |.mk m ts vs ks,w,n,ok,hl,hc=>by
   rw[BP];rw[DD.lt]at hl;rw[DD.cnt]at hc;obtain⟨a1,a2⟩:=oJ ts w ok;obtain⟨c1,c0,c2⟩:=A7d ks (Az ts w).1 n a1.ok hl.2.2.2 (by omega);refine⟨a1.trans c1,λh=>?_,λh=>?_⟩
   ·have e:(Az ts w).1=w:=by
     cases ts with
     |nil=>rfl
     |cons x ts=>rw[Az,C9 h]
    simp only;rw[e];rw[e]at c0;exact c0 h
   ·obtain⟨d1,d2⟩:=c2 h;obtain⟨e1,e2,e3⟩:=a2 d1;have:=a1.ok.cm;have:=a1.ok.mm;have:=lh ks;exact⟨e1,.mk _ e3 (by simp only[K8.A0d];omega) (by simp only[K8.A96,zsq];exact hl.2.2.1.2) (by simp only[K8.S9];omega) d2.2⟩
theorem A7d:∀(ks:List DD)(w:W)(n:Nat),w.s.Ok->DD.Yj n ks->DD.EJ ks<=70000->ig w (C_ ks w).1/\(w.err≠0->(C_ ks w).1=w)/\((C_ ks w).1.err=0->w.err=0/\(C_ ks w).2.length<=ks.length/\∀k∈(C_ ks w).2,Vo k)
 |[],w,n,ok,_,_=>⟨⟨ok,rfl,z1q _⟩,λ_=>rfl,λh=>⟨h,z1q _,by simp[C_]⟩⟩
 |k::ks,w,n,ok,hl,hc=>by
   rw[C_];rw[DD.Yj]at hl;rw[DD.EJ]at hc;split
   ·rename_i g;exact⟨⟨ok,rfl,z1q _⟩,λ_=>rfl,λh=>absurd h g⟩
   ·rename_i g;obtain⟨a1,a0,a2⟩:=zy k w n ok hl.1 (by omega);obtain⟨c1,c0,c2⟩:=A7d ks (BP k w).1 n a1.ok hl.2 (by omega);refine⟨a1.trans c1,λh=>absurd h g,λh=>?_⟩;obtain⟨d1,d2,d3⟩:=c2 h;obtain⟨e1,e2⟩:=a2 d1;refine⟨e1,by simp only[zxq];omega,λx hx=>?_⟩;rcases zfq.1 hx with rfl | hx
    ·exact e2
    ·exact d3 x hx
end
end Go.Su

/-
 HOW MANY ROUNDS an inference can take: what is unknown (?) within a node never changes, and bounds them.
-/
namespace Go.Su
set_option linter.defProp false
mutual
def NT.dn:NT->Nat
 |.mk _ k ts=>(if k=5 then 1 else 0)+NT.DK ts
def NT.DK:List NT->Nat
 |[]=>0
 |t::ts=>t.dn+NT.DK ts
end
noncomputable def E9.dn(S:E9)(n:Nat):Nat:=(S.I8 n).dn
noncomputable def E9.AZ(S:E9):Nat:=S.uv+(S.mx-S.cnt)
variable (t:NT)
theorem NT.wC:t.dn=(if t.k=5 then 1 else 0)+NT.DK t.D5:=by cases t;rw[NT.dn];rfl
def A5s:∀{ts:List NT},(∀t∈ts,t.dn=0)->NT.DK ts=0
 |[],_=>by rw[NT.DK]
 |t::ts,h=>by rw[NT.DK,h t (z3q ..),A5s λu hu=>h u (z2q _ hu)]
def A9m{g:NT->NT}:∀{ts:List NT},(∀t∈ts,(g t).dn=t.dn)->NT.DK (ts.map g)=NT.DK ts
 |[],_=>by rw[zAq]
 |t::ts,h=>by rw[zbq,NT.DK,NT.DK,h t (z3q ..),A9m λu hu=>h u (z2q _ hu)]
variable {S:E9}
def B6q(ok:S.Ok)(t:NT):∀n,U2 S n t->4∉t.all->t.dn=0:=by
 induction t using NT.ind with
 |h q k ts ih=>
   intro n h h4;obtain⟨d,d1,d2,d3,d4,d5⟩:=h.nd;simp only[NT.JD,NT.Ux,NT.S9]at d1 d3 d4 d5;rw[NT.dn,A7,A5s]
   ·intro t ht;obtain⟨i,hi,rfl⟩:=zVq ht;exact ih _ ht _ (d5 i (by omega) hi) λhx=>h4 (NT.BZ.2 (.inr ⟨_,ht,hx⟩))
   ·intro h5;have:=(ok.ki _ d d1).2.2.2.2 (by omega);exact h4 (NT.BZ.2 (.inl (by simp only[NT.JD];omega)))
variable {n:Nat}
def E9.Ok.dn0(ok:S.Ok)(hn:n<S.l.length)(h:4∉S.roots n):S.dn n=0 :=B6q ok _ n (ok.I8 hn) λg=>h ((ok.CS hn).2 g)
def E9.Ok.dn6(ok:S.Ok)(hn:n<S.l.length)(h:S.F9 (S.root n)=6):S.I8 n=.mk (S.root n) 6 []:=by obtain⟨d,d1,d2,d3,d4,d5⟩:=(ok.I8 hn).nd;have e:S.root n=(S.I8 n).r:=rfl;have k:=(ok.ki _ d d1).1;rw[e,CB d1]at h;rw[h]at k d3;have:(S.I8 n).D5=[]:=zaq.1 (by rw[<- d4,k];rfl);rw[e];generalize S.I8 n=t at this d3 ⊢;cases t;simp only[NT.Ux,NT.S9,NT.JD]at this d3 ⊢;rw[this,<- d3]
def B6V(ok:S.Ok){r:Nat}{u:NT}(h6:S.F9 r=6)(hu:u.dn=0)(t:NT):∀n,U2 S n t->(NT.iL r u t).dn=t.dn:=by
 induction t using NT.ind with
 |h q k ts ih=>
   intro n h;rw[NT.iL];split
   ·rename_i e;have hn:=h.lt;have:=ok.dn6 hn (by rw[h.GR];simp only[NT.JD];rw[e];exact h6);rw[h.eq]at this;rw[this,hu];simp[NT.dn,NT.DK]
   ·obtain⟨d,d1,d2,d3,d4,d5⟩:=h.nd;simp only[NT.JD,NT.Ux,NT.S9]at d1 d3 d4 d5;rw[NT.dn,NT.dn,oG,A9m];intro t ht;obtain⟨i,hi,rfl⟩:=zVq ht;exact ih _ ht _ (d5 i (by omega) hi)
def AR(S T:E9):Prop:=∀n,n<S.l.length->T.dn n=S.dn n
theorem AR.refl(S:E9):AR S S:=λn _=>rfl
def AR.trans{T U:E9}(le:S.l.length<=T.l.length)(h:AR S T)(k:AR T U):AR S U:=λn hn=>(k n (by omega)).trans (h n hn)
def AR.like{T:E9}(ok:S.Ok)(L:V6 S T):AR S T:=λn hn=>by unfold E9.dn;rw[((ok.I8 hn).like L).eq]
def AR.link(ok:S.Ok){v:Nat}(hv:v<S.l.length)(hn:n<S.l.length)(h0:S.dn n=0):AR S (S.link v n).1:=by
 unfold E9.link;split
 ·exact AR.refl S
 ·rename_i h;split
  ·exact .like ok (V6.tick S)
  ·rename_i hw;have h6:S.F9 (S.root v)=6:=Classical.not_not.1 λg=>h (.inl g);obtain⟨d,d1,d2,-,-,d5,-⟩:=ok.nd hv;have uj:=TQ ok hv hn h6 hw;refine AR.trans (T:=S.tick.Ay (S.root v) (S.root n)) (by simp[E9.Ay,E9.tick]) (λx hx=>?_) (.like uj (V6.lower _ _ _));have:U2 (S.tick.Ay (S.root v) (S.root n)) x (NT.iL (S.root v) (S.I8 n) (S.I8 x)):=U2.link (S:=S.tick) d1 d2 (ok.I8 hn).self.tick (λhx=>hw ((ok.CS hn).2 hx)) _ x (ok.I8 hx).tick;unfold E9.dn;rw[this.eq];exact B6V ok h6 h0 _ x (ok.I8 hx)
def A70(S:E9)(d:Nd):(S.add d).uv=S.uv+if MU d then 1 else 0:=by unfold E9.uv E9.add;rw[List.countP_append,List.countP_singleton]
def A9L(ok:S.Ok)(A9:Nat):(S.var A9).1.AZ<=S.AZ:=by
 unfold E9.var;split
 ·exact z1q _
 ·have:=ok.cm;simp only[E9.AZ,A70,MU];simp only[E9.add];simp;omega
def B6X(ok:S.Ok)(k A9:Nat)(l:List Nat)(hk:k≠6)(h:S.cnt<S.mx):(S.add ⟨k,A9,none,l⟩).AZ<S.AZ:=by simp only[E9.AZ,A70,MU,beq_iff_eq,hk,z8q,false_and,G8];simp only[E9.add];omega
def zx(ok:S.Ok)(k a b:Nat)(hk:k≠6):(S.make k a b).1.AZ<=S.AZ/\((S.make k a b).2.2=0->(S.make k a b).1.AZ<S.AZ):=by
 unfold E9.make;split
 ·exact⟨z1q _,λh=>by simp at h⟩
 ·have:=ok.cm;have:=B6X ok k 0 (if k=8 then[a]else[a,b]) hk (by omega);exact⟨zPq this,λ_=>this⟩
def uu{A9:Nat}(hl:A9<2 ^ 31):∀(k:Nat)(S:E9),S.Ok->(E9.fresh A9 k S).1.AZ<=S.AZ
 |0,S,ok=>z1q _
 |k+1,S,ok=>by
   rw[E9.fresh];have:=A9L ok A9;split
   ·exact z7q (uu hl k _ (VN ok hl).1) this
   ·exact this
def zw(ok:S.Ok){v:Nat}(hv:v<S.l.length)(hn:n<S.l.length):(S.link v n).1.AZ<=S.AZ/\((S.link v n).2=0->(S.link v n).1.AZ<S.AZ):=by
 have L:=ZZ ok hv hn;have a:(S.link v n).2=0->(S.link v n).1.AZ<S.AZ:=λh=>by have:=L.uv h;unfold E9.AZ;rw[L.mx,L.cnt];omega
 refine⟨?_,a⟩;by_cases e:(S.link v n).2=0
 ·exact zPq (a e)
 ·unfold E9.link at e ⊢;split
  ·exact z1q _
  ·rename_i g;rw[A7 g]at e;split
   ·exact z1q _
   ·rename_i g;rw[A7 g]at e;simp at e
def B2r(ok:S.Ok){A9:Nat}(hl:A9<2 ^ 31):(S.var A9).1.dn (S.var A9).2.1=0:=by
 have h:=(VN ok hl).1;unfold E9.var at h ⊢;split
 ·have:U2 S 0 (.mk 0 1 []):=.mk (.here (ok.base 0 (by omega)) rfl) (ok.base 0 (by omega)) rfl (λi a _=>by simp at a);simp only[E9.dn];rw[this.eq];simp[NT.dn,NT.DK]
 ·rename_i g;rw[A7 g]at h;simp only at h ⊢;have e:(S.add ⟨6,A9,none,[]⟩).l[S.l.length]?=some ⟨6,A9,none,[]⟩:=by simp[E9.add]
  have:U2 (S.add ⟨6,A9,none,[]⟩) S.l.length (.mk S.l.length 6 []):=.mk (.here e rfl) e rfl (λi a _=>by simp at a);simp only[E9.dn];rw[this.eq];simp[NT.dn,NT.DK]
def zX(ok:S.Ok){j:Nat}(hj:j<5):U2 S j (.mk j (j+1) []):=.mk (.here (ok.base j hj) rfl) (ok.base j hj) rfl (λi a _=>by simp at a)
def BV(ok:S.Ok){j:Nat}(hj:j<4):S.dn j=0:=by unfold E9.dn;rw[(zX ok (by omega)).eq];simp[NT.dn,NT.DK];omega
def nV(ok:S.Ok):S.dn 4=1:=by unfold E9.dn;rw[(zX ok (by omega)).eq];simp[NT.dn,NT.DK]
def zF{A9:Nat}(hl:A9<2 ^ 31):∀(k:Nat)(S:E9),S.Ok->∀x∈(E9.fresh A9 k S).2.1,(E9.fresh A9 k S).1.dn x=0
 |0,S,ok=>λx hx=>by simp[E9.fresh]at hx
 |k+1,S,ok=>by
   obtain⟨a1,a2,-,a4,-⟩:=VN ok hl;rw[E9.fresh];split
   ·intro x hx;rcases zfq.1 hx with rfl | hx
    ·have:=AR.like a1 (LJ hl k _ a1).2.1.like _ a4;simp only[this];exact B2r ok hl
    ·exact zF hl k _ a1 x hx
   ·intro x hx;cases hx
def A0K(ok:S.Ok){k A9:Nat}{l:List Nat}(h:S.l[n]?=some ⟨k,A9,none,l⟩):S.dn n=(if k=5 then 1 else 0)+(l.map S.dn).sum:=by
 have hn:n<S.l.length:=(zuq.1 h).1;have hr:X6 S n n:=.here h rfl;have u:=ok.I8 hn;have rn:=hr.eq ⟨_,u⟩;obtain⟨d,d1,d2,d3,d4,d5⟩:=u.nd;have e:(S.I8 n).r=n:=rn;rw[e,h]at d1;cases d1;unfold E9.dn;rw[NT.wC,<- d3];simp only at d4 d5 ⊢;congr 1;generalize (S.I8 n).D5=ts at d4 d5;clear h hr u rn d2 d3 e;induction l generalizing ts with
 |nil=>cases ts with | nil=>rfl | cons _ _=>simp at d4
 |cons a l ih=>
   cases ts with
   |nil=>simp at d4
   |cons t ts=>have h0:=d5 0 (by simp) (by simp);simp only[zKq]at h0;rw[NT.DK,zbq,zgq,h0.eq,ih ts (by simpa using d4) λi a b=>by have:=d5 (i+1) (by simp;omega) (by simp;omega);simpa using this]
def A1Y(ok:S.Ok){k a b:Nat}(hk:k=7\/k=8\/k=9)(ha:a<S.l.length)(hb:k≠8->b<S.l.length):(S.make k a b).1.dn (S.make k a b).2.1<=S.dn a+S.dn b:=by
 obtain⟨h1,h2,-⟩:=MW ok hk ha hb;have D:=AR.like ok h2.like;unfold E9.make at h1 D ⊢;split
 ·simp only;rw[BV ok (by omega)];omega
 ·rename_i g;rw[A7 g]at h1 D;simp only at h1 D ⊢;have e:(S.add ⟨k,0,none,if k=8 then[a]else[a,b]⟩).l[S.l.length]?=some ⟨k,0,none,if k=8 then[a]else[a,b]⟩:=by simp[E9.add]
  rw[A0K h1 e,A7 (by omega)];split
  ·rename_i h8;rw[C9 h8]at D;simp only[zbq,zAq,zgq,yeq];rw[D a ha];omega
  ·rename_i h8;rw[A7 h8]at D;simp only[zbq,zAq,zgq,yeq];rw[D a ha,D b (hb h8)];omega
end Go.Su

/-
 HOW MANY ROUNDS an agreement takes.
-/
namespace Go.Su
set_option linter.defProp false
variable {S:E9}
def A1Z(ok:S.Ok){n:Nat}(hn:n<S.l.length):S.dn (S.root n)=S.dn n:=by unfold E9.dn;have:U2 S (S.root n) (S.I8 n):=(ok.I8 hn).self;rw[this.eq]
def WA(ok:S.Ok){n:Nat}(hn:n<S.l.length):((S.I6 (S.root n)).map S.dn).sum<=S.dn n:=by
 obtain⟨d,d1,d2,-,d4,-⟩:=ok.nd hn;have:d=⟨d.E8,d.level,none,d.D5⟩:=by cases d;simp only at d2;rw[d2]
 rw[this]at d1;have:=A0K ok d1;rw[A1Z ok hn]at this;rw[<- d4];omega
noncomputable def md(S:E9):List (Nat×Nat)->Nat
 |[]=>0
 |p::l=>S.dn p.1+S.dn p.2+md S l
def A1k(S:E9):∀a c:List (Nat×Nat),md S (a++c)=md S a+md S c
 |[],c=>by simp[md]
 |p::a,c=>by rw[zTq,md,md,A1k S a c];omega
def A1l(S:E9):∀a c:List Nat,md S (a.zip c)<=(a.map S.dn).sum+(c.map S.dn).sum
 |[],c=>by simp[md]
 |x::a,[]=>by simp[md]
 |x::a,y::c=>by have:=A1l S a c;simp only[zDq,md,zbq,zgq];omega
def Zb{S T:E9}(h:AR S T):∀{l:List (Nat×Nat)},(∀q∈l,q.1<S.l.length/\q.2<S.l.length)->md T l=md S l
 |[],_=>rfl
 |p::l,hl=>by rw[md,md,h _ (hl p (z3q ..)).1,h _ (hl p (z3q ..)).2,Zb h λq hq=>hl q (z2q _ hq)]
theorem B4X(S:E9):S.tick.AZ=S.AZ:=rfl
structure B9Z(S:E9)(w:Nat)(q:E9×Option Nat×Nat):Prop where
 dn:AR S q.1
 AZ:q.1.AZ<=S.AZ
 less:q.2.2=0->q.1.AZ<S.AZ
 z:∀m,q.2.2=0->q.2.1=some m->q.1.dn m=0
def A5k(ok:S.Ok){v w:Nat}(hv:v<S.l.length)(hw:w<S.l.length)(rw_:S.root w=w)(yI:w≠4):B9Z S w (S.become v w):=by
 unfold E9.become;split
 ·rename_i k6;have h0:S.dn w=0:=by have:=ok.dn6 hw (by rw[rw_];exact k6);unfold E9.dn;rw[this];simp[NT.dn,NT.DK]
  have L:=zw ok hv hw;exact⟨.link ok hv hw h0,L.1,L.2,λm _ h=>by cases h⟩
 ·rename_i k6;split
  ·rename_i h4;have h0:=ok.dn0 hw h4;have L:=zw ok.tick (show v<S.tick.l.length from hv) (show w<S.tick.l.length from hw);have D:AR S.tick (S.tick.link v w).1:=.link ok.tick hv hw (by have:=AR.like ok (V6.tick S) w hw;rw[this];exact h0);exact⟨AR.trans (T:=S.tick) (z1q _) (AR.like ok (V6.tick S)) D,L.1,L.2,λm _ h=>by cases h⟩
  ·rename_i Q9;have Q9:4∈S.roots w:=Classical.not_not.1 Q9;have D0:AR S S.tick.tick:=.like ok ((V6.tick S).trans (V6.tick S.tick));split
   ·exact⟨D0,z1q _,λh=>by simp at h,λm h=>by simp at h⟩
   ·have TS:=ok.tick.tick;obtain⟨f1,f2,f3,f4,f5,f6⟩:=LJ (ok.A9 hv) (S.I6 w).length _ TS;have fp:=uu (ok.A9 hv) (S.I6 w).length _ TS;have fd:=zF (ok.A9 hv) (S.I6 w).length _ TS;simp only;generalize E9.fresh (S.X4 v) (S.I6 w).length S.tick.tick=q at f1 f2 f3 f4 f5 f6 fp fd ⊢;have fp:q.1.AZ<=S.AZ:=fp;have D1:AR S q.1:=AR.trans (T:=S.tick.tick) (z1q _) D0 (.like TS f2.like);have le1:S.l.length<=q.1.l.length:=f2.le;split
    ·rename_i g;exact⟨D1,fp,λh=>absurd h g,λm h=>absurd h g⟩
    ·rename_i g;have g0:q.2.2=0:=Classical.not_not.1 g;have ql:=f6 g0;have kw:=ok.knd hw;have kn:=ok.YM hw;by_cases A4Z:S.F9 w<=5
     ·exfalso;have h0:(S.I6 w).length=0:=by rw[kn];unfold Ml;rw[A7 (by omega),A7 (by omega)]
      have hu:=ok.I8 hw;obtain⟨d,d1,-,d3,d4,-⟩:=hu.nd;have hr:(S.I8 w).r=w:=rw_;rw[hr]at d1;have hk:(S.I8 w).D5=[]:=by
       have:d.D5.length=0:=by rw[<- Cu d1];exact h0
       exact zaq.1 (by omega)
      have h4:=(ok.CS hw).1 Q9;rcases NT.BZ.1 h4 with e | ⟨u,hu,-⟩
      ·exact absurd (show w=4 by rw[<- hr];exact e.symm) yI
      ·rw[hk]at hu;cases hu
     ·have Yh:S.F9 w=7\/S.F9 w=8\/S.F9 w=9:=by omega
      have m0:q.2.1.getD 0 0∈q.2.1:=by
       have:0<q.2.1.length:=by rw[ql,kn];unfold Ml;split<;>(try split)<;>omega
       rw[z5q,z4q this];exact z9q this
      have z1:q.1.dn (q.2.1.getD 1 0)=0:=by
       by_cases h:1<q.2.1.length
       ·rw[z5q,z4q h];exact fd _ (z9q h)
       ·rw[z5q,List.getElem?_eq_none (by omega)];exact BV f1 (j:=0) (by omega)
      have p1:S.F9 w≠8->q.2.1.getD 1 0<q.1.l.length:=by
       intro h8;have:1<q.2.1.length:=by rw[ql,kn];unfold Ml;rw[A7 h8,C9 (by omega)];omega
       rw[z5q,z4q this];exact f5 _ (z9q this)
      obtain⟨m1,m2,-,m4,-,-⟩:=MW f1 Yh (f5 _ m0) p1;have mz:=A1Y f1 Yh (f5 _ m0) p1;rw[fd _ m0,z1]at mz;have mp:=zx f1 (S.F9 w) (q.2.1.getD 0 0) (q.2.1.getD 1 0) k6;generalize q.1.make (S.F9 w) (q.2.1.getD 0 0) (q.2.1.getD 1 0)=z at m1 m2 m4 mz mp ⊢;have D2:AR S z.1:=AR.trans le1 D1 (.like f1 m2.like);have le2:S.l.length<=z.1.l.length:=z7q le1 m2.le;split
      ·rename_i gz;exact⟨D2,by have:=mp.1;simp only;omega,λh=>absurd h gz,λm h=>absurd h gz⟩
      ·rename_i gz;have z0:z.2.2=0:=Classical.not_not.1 gz;have L:=zw m1 (z0q hv le2) m4;have D3:AR z.1 (z.1.link v z.2.1).1:=.link m1 (z0q hv le2) m4 (by omega);refine⟨AR.trans le2 D2 D3,by have:=mp.1;have:=L.1;simp only;omega,λh=>by have:=mp.2 z0;have:=L.1;simp only;omega,λm _ hm=>?_⟩;simp only[D8]at hm;subst hm;simp only;rw[D3 _ m4];omega
structure B5z(S:E9)(p:Nat×Nat)(rest:List (Nat×Nat))(T:E9)(l:List (Nat×Nat)):Prop where
 ok:T.Ok
 ext:Y3 S T
 lt:∀q∈l,q.1<T.l.length/\q.2<T.l.length
 dn:AR S T
 cost:T.J6+5 * T.AZ+md T l<=S.J6+5 * S.AZ+md S (p::rest)
def A75(ok:S.Ok){p:Nat×Nat}{rest:List (Nat×Nat)}(hl:∀q∈p::rest,q.1<S.l.length/\q.2<S.l.length):
 (∃q,(∀f,E9.P7 (f+1) S (p::rest)=some q)/\AR S q.1/\q.2.2.2≠0/\q.1.J6+5 * q.1.AZ<=S.J6+5 * S.AZ+5)\/∃T l,(∀f,E9.P7 (f+1) S (p::rest)=E9.P7 f T l)/\B5z S p rest T l:=by
 obtain⟨h1,h2⟩:=hl p (z3q ..);have Aw:∀q∈rest,q.1<S.l.length/\q.2<S.l.length:=λq hq=>hl q (z2q _ hq);have x1:=ok.Fu h1;have x2:=ok.Fu h2;have r1:=A1Z ok h1;have r2:=A1Z ok h2;have qP:∀{T:E9},Y3 S T->∀q∈rest,q.1<T.l.length/\q.2<T.l.length:=λe q hq=>⟨z0q (Aw q hq).1 e.le,z0q (Aw q hq).2 e.le⟩;have D5:∀(T:E9)(x y:Nat),T.Ok->Y3 S T->x<T.l.length->y<T.l.length->∀q∈(T.I6 (T.root x)).zip (T.I6 (T.root y))++rest,q.1<T.l.length/\q.2<T.l.length:=by
  intro T x y okT e hx hy q hq;rcases zcq.1 hq with hq | hq
  ·exact⟨okT.Ou hx (znq hq).1,okT.Ou hy (znq hq).2⟩
  ·exact qP e q hq
 have low:∀n,1<=S.dn p.1+S.dn p.2->B5z S p rest (S.lower n 0) rest:=λn h1=>by
  have D:AR S (S.lower n 0):=.like ok (V6.lower S _ _);refine⟨ok.lower _ _,Y3.lower S _ _,qP (Y3.lower S _ _),D,?_⟩;rw[Zb D Aw,md];have:(S.lower n 0).AZ=S.AZ:=by unfold E9.AZ;rw[A0e];rfl
  have:(S.lower n 0).J6=S.J6+1:=rfl;omega
 by_cases c1:S.root p.1=S.root p.2
 ·exact .inr ⟨S,rest,λf=>by rw[X5,C9 c1],ok,Y3.refl S,Aw,AR.refl S,by rw[md];omega⟩
 by_cases c2:S.root p.1=4
 ·refine .inr ⟨_,rest,λf=>by rw[X5,A7 c1,C9 c2],low _ ?_⟩;rw[c2,nV ok]at r1;omega
 by_cases c3:S.root p.2=4
 ·refine .inr ⟨_,rest,λf=>by rw[X5,A7 c1,A7 c2,C9 c3],low _ ?_⟩;rw[c3,nV ok]at r2;omega
 by_cases c4:S.F9 (S.root p.1)=6
 ·have B:=Ke ok x1 x2 (ok.rr h1) (ok.rr h2) c1 c3 c4;have C:=A5k ok x1 x2 (ok.rr h2) c3;by_cases e0:(S.become (S.root p.1) (S.root p.2)).2.2=0
  ·have l1:=C.less e0;have l2:=B.J6;cases hm:(S.become (S.root p.1) (S.root p.2)).2.1 with
   |none=>refine .inr ⟨_,rest,λf=>by rw[X5,A7 c1,A7 c2,A7 c3,C9 c4,A7 (λg=>g e0),hm],B.ok,B.ext,qP B.ext,C.dn,?_⟩;rw[Zb C.dn Aw,md];omega
   |some m=>obtain⟨b1,b2,b3,b4⟩:=B.some m e0 hm;have hy:=z0q x2 B.ext.le;refine .inr ⟨_,_,λf=>by rw[X5,A7 c1,A7 c2,A7 c3,C9 c4,A7 (λg=>g e0),hm],B.ok,B.ext,D5 _ m _ B.ok B.ext b1 hy,C.dn,?_⟩;have k1:=WA B.ok b1;have k2:=WA B.ok hy;rw[C.z m e0 hm]at k1;rw[C.dn _ x2,r2]at k2;have k3:=A1l (S.become (S.root p.1) (S.root p.2)).1 ((S.become (S.root p.1) (S.root p.2)).1.I6 ((S.become (S.root p.1) (S.root p.2)).1.root m)) ((S.become (S.root p.1) (S.root p.2)).1.I6 ((S.become (S.root p.1) (S.root p.2)).1.root (S.root p.2)));rw[A1k,Zb C.dn Aw,md];omega
  ·refine .inl ⟨(_,0,0,_),λf=>by rw[X5,A7 c1,A7 c2,A7 c3,C9 c4,C9 e0],C.dn,e0,?_⟩;have e1:=C.AZ;have e2:=B.J6;exact(by omega:(S.become (S.root p.1) (S.root p.2)).1.J6+5 * (S.become (S.root p.1) (S.root p.2)).1.AZ<=S.J6+5 * S.AZ+5)
 by_cases c5:S.F9 (S.root p.2)=6
 ·have B:=Ke ok x2 x1 (ok.rr h2) (ok.rr h1) (Ne.symm c1) c2 c5;have C:=A5k (v:=S.root p.2) ok x2 x1 (ok.rr h1) c2;by_cases e0:(S.become (S.root p.2) (S.root p.1)).2.2=0
  ·have l1:=C.less e0;have l2:=B.J6;cases hm:(S.become (S.root p.2) (S.root p.1)).2.1 with
   |none=>refine .inr ⟨_,rest,λf=>by rw[X5,A7 c1,A7 c2,A7 c3,A7 c4,C9 c5,A7 (λg=>g e0),hm],B.ok,B.ext,qP B.ext,C.dn,?_⟩;rw[Zb C.dn Aw,md];omega
   |some m=>obtain⟨b1,b2,b3,b4⟩:=B.some m e0 hm;have hy:=z0q x1 B.ext.le;refine .inr ⟨_,_,λf=>by rw[X5,A7 c1,A7 c2,A7 c3,A7 c4,C9 c5,A7 (λg=>g e0),hm],B.ok,B.ext,D5 _ _ m B.ok B.ext hy b1,C.dn,?_⟩;have k1:=WA B.ok b1;have k2:=WA B.ok hy;rw[C.z m e0 hm]at k1;rw[C.dn _ x1,r1]at k2;have k3:=A1l (S.become (S.root p.2) (S.root p.1)).1 ((S.become (S.root p.2) (S.root p.1)).1.I6 ((S.become (S.root p.2) (S.root p.1)).1.root (S.root p.1))) ((S.become (S.root p.2) (S.root p.1)).1.I6 ((S.become (S.root p.2) (S.root p.1)).1.root m));rw[A1k,Zb C.dn Aw,md];omega
  ·refine .inl ⟨(_,0,0,_),λf=>by rw[X5,A7 c1,A7 c2,A7 c3,A7 c4,C9 c5,C9 e0],C.dn,e0,?_⟩;have e1:=C.AZ;have e2:=B.J6;exact(by omega:(S.become (S.root p.2) (S.root p.1)).1.J6+5 * (S.become (S.root p.2) (S.root p.1)).1.AZ<=S.J6+5 * S.AZ+5)
 by_cases c6:S.F9 (S.root p.1)=S.F9 (S.root p.2)
 ·refine .inr ⟨S,(S.I6 (S.root p.1)).zip (S.I6 (S.root p.2))++rest,λf=>by rw[X5,A7 c1,A7 c2,A7 c3,A7 c4,A7 c5,A7 (λg=>g c6)],ok,Y3.refl S,D5 S _ _ ok (Y3.refl S) h1 h2,AR.refl S,?_⟩;have k1:=WA ok h1;have k2:=WA ok h2;have k3:=A1l S (S.I6 (S.root p.1)) (S.I6 (S.root p.2));rw[A1k,md];omega
 ·exact .inl ⟨(S,_,_,4),λf=>by rw[X5,A7 c1,A7 c2,A7 c3,A7 c4,A7 c5,C9 c6],AR.refl S,by simp,by simp only;omega⟩
def A5d:∀(f:Nat)(S:E9)(l:List (Nat×Nat))(q:E9×Nat×Nat×Nat),S.Ok->(∀p∈l,p.1<S.l.length/\p.2<S.l.length)->E9.P7 f S l=some q->AR S q.1/\q.1.J6+5 * q.1.AZ<=S.J6+5 * S.AZ+md S l+if q.2.2.2=0 then 0 else 5
 |0,S,l,q,ok,hl,h=>by simp[E9.P7]at h
 |f+1,S,[],q,ok,hl,h=>by simp only[E9.P7,D8]at h;subst h;exact⟨AR.refl S,by simp only[md];omega⟩
 |f+1,S,p::rest,q,ok,hl,h=>by
   rcases A75 ok hl with⟨q',h',a,c,d⟩ | ⟨T,l,h',G⟩
   ·rw[h' f]at h;cases h;exact⟨a,by rw[A7 c];omega⟩
   ·rw[h' f]at h;obtain⟨a,c⟩:=A5d f T l q G.ok G.lt h;exact⟨AR.trans G.ext.le G.dn a,by have:=G.cost;omega⟩
def A9a(ok:S.Ok){a b:Nat}(ha:a<S.l.length)(hb:b<S.l.length):AR S (S.agree a b).1/\(S.agree a b).1.J6+5 * (S.agree a b).1.AZ<=S.J6+5 * S.AZ+(S.dn a+S.dn b)+if (S.agree a b).2.2.2=0 then 0 else 5:=by obtain⟨f,hf⟩:=Vw ok ha hb;have:=A5d f S _ _ ok (by simp[ha,hb]) hf;simp only[md,Nat.add_zero]at this;exact this
end Go.Su

/-
 HOW MANY ROUNDS: types that are put, copies, patterns.
-/
namespace Go.Su
set_option linter.defProp false
mutual
def Ty.dn:Ty->Nat
 |.mk k _ ts=>(if k=5 then 1 else 0)+Ty.DK ts
def Ty.DK:List Ty->Nat
 |[]=>0
 |t::ts=>t.dn+Ty.DK ts
end
theorem Ty.wC(t:Ty):t.dn=(if t.E8=5 then 1 else 0)+Ty.DK t.D5:=by cases t;rw[Ty.dn];rfl
def A67(S:E9)(k A9:Nat)(l:List Nat)(hk:k≠6):(S.add ⟨k,A9,none,l⟩).AZ<=S.AZ:=by simp only[E9.AZ,A70,MU,beq_iff_eq,hk,z8q,false_and,G8];simp only[E9.add];omega
def B8M(t:Ty):t.rc->∀S:E9,S.Ok->S.cnt+GG t<=S.mx->(Fx t S).1.dn (Fx t S).2=t.dn/\(Fx t S).1.AZ<=S.AZ:=by
 induction t using Ty.ind with
 |h t ih=>
   intro hr S ok hc;have G:=Qj t hr S ok hc;rw[Zf]at G ⊢;rw[Pq]at G hc;rw[Ty.wC];rcases hr.E8 with⟨e,h1,h2,-⟩ | ⟨e,h1,h2,h3,-⟩
   ·rw[e];simp only[zMq,F5];refine⟨?_,z1q _⟩;obtain⟨j,hj,hj5⟩:∃j:Nat,t.E8=(j:Int)+1/\j<5:=⟨(t.E8-1).toNat,by omega,by omega⟩;have:(t.E8-1).toNat=j:=by omega
    rw[this];unfold E9.dn;rw[(zX ok hj5).eq];simp only[NT.dn,NT.DK,Ty.DK]
    by_cases g:j+1=5
    ·rw[C9 g,C9 (by omega)]
    ·rw[A7 g,A7 (by omega)]
   ·have hl:¬t.D5.length=0:=λg=>e (zaq.1 g);rw[A7 hl]at hc G;rw[A7 hl]at G ⊢;have key:∀(ts:List Ty),(∀k∈ts,k∈t.D5)->∀S:E9,S.Ok->S.cnt+BJ ts<=S.mx->(Y6 ts S).1.Ok/\Ct S (Y6 ts S).1/\(Y6 ts S).1.cnt=S.cnt+BJ ts/\(∀x∈(Y6 ts S).2,x<(Y6 ts S).1.l.length)/\((Y6 ts S).2.map (Y6 ts S).1.dn).sum=Ty.DK ts/\(Y6 ts S).1.AZ<=S.AZ:=by
     intro ts;induction ts with
     |nil=>intro _ S ok _;exact⟨ok,Ct.refl S,rfl,by simp[Y6],by simp[Y6,Ty.DK],z1q _⟩
     |cons k ts ihs=>
       intro hs S ok hc;rw[BJ]at hc;have hk:=hs k (z3q ..);obtain⟨a,a2⟩:=Qj k (hr.kid hk) S ok (by omega);obtain⟨p1,p2⟩:=ih k hk (hr.kid hk) S ok (by omega);have ac:=a.cnt;have am:=a.U3.mx;obtain⟨c1,c2,c3,c4,c5,c6⟩:=ihs (λw hw=>hs w (z2q _ hw)) _ a.ok (by omega);rw[Y6,BJ,Ty.DK];refine⟨c1,a.U3.trans c2,by simp only;omega,λx hx=>?_,?_,z7q c6 p2⟩
       ·rcases zfq.1 hx with rfl | hx
        ·exact z0q a2 c2.le
        ·exact c4 x hx
       ·simp only[zbq,zgq]
        rw[c5,AR.like a.ok c2.like _ a2,p1]
    obtain⟨a1,a2,a3,a4,a5,a6⟩:=key t.D5 (λk hk=>hk) S ok (by omega);obtain⟨⟨g1,-,-,-⟩,-⟩:=G;have en:((Y6 t.D5 S).1.add ⟨t.E8.toNat,0,none,(Y6 t.D5 S).2⟩).l[(Y6 t.D5 S).1.l.length]?=some ⟨t.E8.toNat,0,none,(Y6 t.D5 S).2⟩:=by simp[E9.add]
    refine⟨?_,z7q (A67 _ _ _ _ ?_) a6⟩
    ·simp only at g1 ⊢;rw[A0K g1 en,A7 (by omega),A7 (by omega)];congr 1;rw[<- a5];congr 1;refine ziq λx hx=>?_;exact AR.like a1 (V6.add _ _) x (a4 x hx)
    ·omega
mutual
theorem B4d(K:List (Nat×Nat)):∀(t:NT)(q:E9×List (Nat×Nat)),Ct q.1 (t.copy K q).2.1
 |.mk r k ts,q=>by
   rw[NT.copy];split
   ·exact Ct.refl _
   ·split
    ·exact Ct.refl _
    ·split
     ·exact Ct.refl _
     ·exact(sS K ts q).trans (Ct.add _ _)
theorem sS(K:List (Nat×Nat)):∀(ts:List NT)(q:E9×List (Nat×Nat)),Ct q.1 (NT.U9 K ts q).2.1
 |[],q=>by rw[NT.U9];exact Ct.refl _
 |t::ts,q=>by rw[NT.U9];exact(B4d K t q).trans (sS K ts _)
end
def B7S{S0:E9}{n0:Nat}{K:List (Nat×Nat)}(ok0:S0.Ok)(hK:∀e∈K,e.2<S0.l.length)(hK6:∀e∈K,S0.F9 e.1=6/\S0.dn e.2=0)(hn:S0.need K n0<=S0.mx-S0.cnt){N:List Nat}(hN:N=(S0.roots n0).filter λr=>S0.F9 r != 6&&(S0.I8 r).has (K.map (·.1)))(t:NT):
 ∀n,U2 S0 n t->(∀x∈t.all,x∈S0.roots n0)->∀(S:E9)(M:List (Nat×Nat)),CI S0 N S M->(∀e∈M,S.dn e.2=S0.dn e.1)->(t.copy K (S,M)).2.1.dn (t.copy K (S,M)).1=t.dn/\(t.copy K (S,M)).2.1.AZ<=S.AZ/\∀e∈(t.copy K (S,M)).2.2,(t.copy K (S,M)).2.1.dn e.2=S0.dn e.1:=by
 induction t using NT.ind with
 |h r k ts ih=>
   intro n hu hx S M C hM;obtain⟨CT,-,-⟩:=jC ok0 hK hn hN (.mk r k ts) n hu hx S M C;have hr:=hu.Fu;simp only[NT.JD]at hr;have e0:S0.dn r=(NT.mk r k ts).dn:=by unfold E9.dn;rw[hu.B3j]
   obtain⟨d,d1,d2,d3,d4,-⟩:=hu.nd;simp only[NT.JD,NT.Ux,NT.S9]at d1 d3 d4;have kd:=ok0.ki _ _ d1;rw[NT.copy]at CT ⊢;cases hf:FC K r with
   |some m=>
     simp only;obtain⟨h6,h0⟩:=hK6 _ (PY hf);refine⟨?_,z1q _,hM⟩;rw[AR.like ok0 C.U3.like _ (hK _ (PY hf)),h0];simp only at h6;rw[CB d1]at h6;have:ts.length=0:=by rw[<- d4,kd.1,h6];rfl
     rw[zaq.1 this,NT.dn,A7 (by omega),NT.DK]
   |none=>
     rw[hf]at CT;simp only at CT ⊢;by_cases hh:(NT.mk r k ts).has (K.map (·.1))=false
     ·rw[C9 hh];exact⟨by rw[AR.like ok0 C.U3.like _ hr,e0],z1q _,hM⟩
     ·rw[A7 hh]at CT ⊢;cases hm:FC M r with
      |some m=>simp only;exact⟨by rw[hM _ (PY hm),e0],z1q _,hM⟩
      |none=>
        rw[hm]at CT;simp only at CT ⊢;have key:∀(us:List NT),(∀u∈us,u∈ts)->∀(S:E9)(M:List (Nat×Nat)),CI S0 N S M->(∀e∈M,S.dn e.2=S0.dn e.1)->CI S0 N (NT.U9 K us (S,M)).2.1 (NT.U9 K us (S,M)).2.2/\(∀x∈(NT.U9 K us (S,M)).1,x<(NT.U9 K us (S,M)).2.1.l.length)/\((NT.U9 K us (S,M)).1.map (NT.U9 K us (S,M)).2.1.dn).sum=NT.DK us/\(NT.U9 K us (S,M)).2.1.AZ<=S.AZ/\∀e∈(NT.U9 K us (S,M)).2.2,(NT.U9 K us (S,M)).2.1.dn e.2=S0.dn e.1:=by
         intro us;induction us with
         |nil=>intro _ S M C hM;rw[NT.U9];exact⟨C,by simp,by simp[NT.DK],z1q _,hM⟩
         |cons u us ihu=>
           intro hs S M C hM;have CR:=hs u (z3q ..);obtain⟨m,hm⟩:=hu.kid (u:=u) CR;have FI:∀x∈u.all,x∈S0.roots n0:=λx FI=>hx x (NT.BZ.2 (.inr ⟨u,CR,FI⟩));obtain⟨a1,a2,-⟩:=jC ok0 hK hn hN u m hm FI S M C;obtain⟨p1,p2,p3⟩:=ih u CR m hm FI S M C hM;obtain⟨c1,c2,c3,c4,c5⟩:=ihu (λw hw=>hs w (z2q _ hw)) _ _ a1 p3;have gr:=sS K us (u.copy K (S,M)).2;rw[NT.U9,NT.DK];refine⟨c1,λx hx=>?_,?_,z7q c4 p2,c5⟩
           ·rcases zfq.1 hx with rfl | hx
            ·exact z0q a2 gr.le
            ·exact c2 x hx
           ·simp only[zbq,zgq]
            have c3':((NT.U9 K us (u.copy K (S,M)).2).1.map (NT.U9 K us (u.copy K (S,M)).2).2.1.dn).sum=NT.DK us:=c3;rw[c3',AR.like a1.ok gr.like _ a2,p1]
        obtain⟨a1,a2,a3,a4,a5⟩:=key ts (λu hu=>hu) S M C hM;generalize NT.U9 K ts (S,M)=q at a1 a2 a3 a4 a5 CT ⊢;have k6:k≠6:=by
         intro e;subst e;have:ts.length=0:=by rw[<- d4,kd.1,d3];rfl
         rw[NT.has,zaq.1 this,NT.Uo,Bool.or_false,PP]at hh;exact hh (Kj.1 hf)
        have en:(q.2.1.add ⟨k,0,none,q.1⟩).l[q.2.1.l.length]?=some ⟨k,0,none,q.1⟩:=by simp[E9.add]
        have D:=AR.like a1.ok (V6.add q.2.1 ⟨k,0,none,q.1⟩);have nn:(q.2.1.add ⟨k,0,none,q.1⟩).dn q.2.1.l.length=(NT.mk r k ts).dn:=by rw[A0K CT.ok en,NT.dn,<- a3];congr 2;exact ziq λx hx=>D x (a2 x hx)
        refine⟨nn,z7q (A67 _ _ _ _ k6) a4,λe he=>?_⟩;rcases zcq.1 he with he | he
        ·rw[D _ (a1.lt e he)];exact a5 e he
        ·rw[z6q.1 he];exact nn.trans e0.symm
def B2I{S:E9}:∀(fs ts:List Nat)(K K':List (Nat×Nat)),fs.length<=ts.length->(∀t∈ts,S.dn t=0)->(∀e∈K,S.F9 e.1=6/\S.dn e.2=0)->S.keys fs ts K=some K'->∀e∈K',S.F9 e.1=6/\S.dn e.2=0
 |[],ts,K,K',_,_,hk,h=>by simp only[E9.keys,D8]at h;subst h;exact hk
 |f::fs,[],K,K',hl,_,hk,h=>by simp at hl
 |f::fs,t::ts,K,K',hl,ht,hk,h=>by
   rw[E9.keys]at h;split at h
   ·rename_i g;refine B2I fs ts _ K' (by simpa using hl) (λx hx=>ht x (z2q _ hx)) (λe he=>?_) h;rcases zcq.1 he with he | he
    ·exact hk e he
    ·rw[z6q.1 he];exact⟨g.1,ht t (z3q ..)⟩
   ·cases h
def B6k{S:E9}(ok:S.Ok){n:Nat}(hn:n<S.l.length){from_ to:List Nat}(hl:from_.length<=to.length)(ht:∀t∈to,t<S.l.length)(h0:∀t∈to,S.dn t=0):(S.copy n from_ to).1.dn (S.copy n from_ to).2.1<=S.dn n/\AR S (S.copy n from_ to).1/\(S.copy n from_ to).1.J6+5 * (S.copy n from_ to).1.AZ<=S.J6+5 * S.AZ+1:=by
 unfold E9.copy;split
 ·exact⟨by simp only;rw[BV ok (by omega)];omega,AR.refl S,by simp only;omega⟩
 ·rename_i K hK;split
  ·exact⟨by simp only;rw[BV ok.tick (by omega)];omega,.like ok (V6.tick S),by simp only[B4X];simp only[E9.tick];omega⟩
  ·rename_i hnd;have hk:=A2v from_ to [] K hl ht (by simp) hK;have hk6:=B2I from_ to [] K hl h0 (by simp) hK;have rt:S.tick.roots n=S.roots n:=by unfold E9.roots;rw[(ok.I8 hn).tick.eq]
   have D0:=AR.like ok (V6.tick S);have ci:CI S.tick ((S.tick.roots n).filter λr=>S.tick.F9 r != 6&&(S.tick.I8 r).has (K.map (·.1))) S.tick []:=⟨ok.tick,Ct.refl _,rfl,rfl,by simp,y6q,by simp⟩;have hx:∀x∈(S.I8 n).all,x∈S.tick.roots n:=λx hx=>by rw[rt];exact(ok.CS hn).2 hx
   have B8h:S.tick.need K n<=S.tick.mx-S.tick.cnt:=by rw[A1p ok hn];exact y9q.1 hnd
   obtain⟨C,c2,-⟩:=jC (S0:=S.tick) (n0:=n) ok.tick hk B8h rfl (S.I8 n) n (ok.I8 hn).tick hx S.tick [] ci;obtain⟨p1,p2,-⟩:=B7S (S0:=S.tick) (n0:=n) ok.tick hk (λe he=>⟨(hk6 e he).1,by rw[D0 _ (hk e he)];exact(hk6 e he).2⟩) B8h rfl (S.I8 n) n (ok.I8 hn).tick hx S.tick [] ci (by simp);refine⟨zoq p1,AR.trans (T:=S.tick) (z1q _) D0 (.like ok.tick C.U3.like),?_⟩;have r:=C.J6;have:S.tick.J6=S.J6+1:=rfl;have:S.tick.AZ=S.AZ:=rfl;simp only;omega
end Go.Su

/-
 HOW MANY ROUNDS: steps of an inference, patterns.
-/
namespace Go.Su
set_option linter.defProp false
noncomputable def W.phi(w:W):Nat:=w.s.J6+5 * w.s.AZ+if w.err=0 then 5 else 0
structure GC(w w':W)(c:Nat):Prop where
 g:Good w w'
 dn:AR w.s w'.s
 phi:w'.phi<=w.phi+c
structure GN(w:W)(q:W×Nat)(c r:Nat):Prop where
 c:GC w q.1 c
 lt:q.2<q.1.s.l.length
 dn:q.1.s.dn q.2<=r
variable {w:W}
def GC.refl(h:AF w):GC w w 0:=⟨Good.refl h,AR.refl _,z1q _⟩
def GC.trans{a b c:W}{m n:Nat}(h:GC a b m)(k:GC b c n):GC a c (m+n):=⟨h.g.trans k.g,AR.trans h.g.ext.le h.dn k.dn,by have:=h.phi;have:=k.phi;omega⟩
def GC.mono{a b:W}{m n:Nat}(h:GC a b m)(le:m<=n):GC a b n:=⟨h.g,h.dn,by have:=h.phi;omega⟩
def GC.n{w1:W}{q:W×Nat}{m n r:Nat}(h:GC w w1 m)(k:GN w1 q n r):GN w q (m+n) r:=⟨h.trans k.c,k.lt,k.dn⟩
def GN.mono{q:W×Nat}{m n r r':Nat}(h:GN w q m r)(le:m<=n)(l2:r<=r'):GN w q n r':=⟨h.c.mono le,h.lt,z7q h.dn l2⟩
variable {c:Nat}
def GC.i{w':W}(h:GC w w' c):AF w':=h.g.i
def GC.ext{w':W}(h:GC w w' c):Y3 w.s w'.s:=h.g.ext
def GC.lt{w':W}{n:Nat}(h:GC w w' c)(hn:n<w.s.l.length):n<w'.s.l.length:=h.g.lt hn
def GC.at{w':W}{n r:Nat}(h:GC w w' c)(hn:n<w.s.l.length)(hr:w.s.dn n<=r):w'.s.dn n<=r:=by rw[h.dn n hn];exact hr
def JO(S:E9)(l:List EN)(D:Nat):Prop:=∀x∈l,S.dn x.node<=D
variable {S:E9}{l:List EN}{D:Nat}
def JO.mono{T:E9}{D':Nat}(h:JO S l D)(hE:AB S.l.length l)(d:AR S T)(le:D<=D'):JO T l D':=λx hx=>by rw[d _ (hE x hx).1];exact z7q (h x hx) le
def JO.app{k:List EN}(h:JO S l D)(g:JO S k D):JO S (l++k) D:=λx hx=>by
 rcases zcq.1 hx with hx | hx
 ·exact h x hx
 ·exact g x hx
def JO.one{s:ByteArray}{m:Nat}{vs:List Nat}(h:S.dn m<=D):JO S [⟨s,m,vs⟩] D:=λx hx=>by rw[z6q.1 hx];exact h
variable (w:W)(e:Nat)(b:JN)
def dh(h:w.err=0):(w.fails e b).err=e:=by
 unfold W.fails;split
 ·rfl
 ·rename_i g;rw[h];exact(Classical.not_not.1 λh2=>g ⟨h,Ne.symm h2⟩)
def B0F(h:w.err≠0):(w.fails e b).err=w.err:=by unfold W.fails;rw[A7 λg=>h g.1]
def A3J:(w.fails e b).phi<=w.phi:=by
 unfold W.phi;rw[AQ];by_cases h:w.err=0
 ·rw[dh w e b h,h];simp only[F5];split<;>omega
 ·rw[B0F w e b h];omega
variable {w:W}
def Ze{e:Nat}{b:JN}(h:w.err=0)(hs:S.J6+5 * S.AZ<=w.s.J6+5 * w.s.AZ+c+if e=0 then 0 else 5):(({ w with s:=S }:W).fails e b).phi<=w.phi+c:=by
 unfold W.phi;rw[AQ,dh _ e b (by simpa using h),h];simp only[F5]
 split at hs
 ·rename_i g;rw[C9 g];omega
 ·rename_i g;rw[A7 g];omega
variable {A9:Nat}
def Qc(h:AF w)(hl:A9<2 ^ 31):GN w (w.fresh A9) 0 0:=by
 obtain⟨a1,a2⟩:=BM h hl;have dv:=B2r h.ok hl;have pv:=A9L h.ok A9;obtain⟨-,v2,v3,-⟩:=VN h.ok hl;refine⟨⟨a1,?_,?_⟩,a2,?_⟩
 all_goals
  unfold W.fresh at a1 a2 ⊢;split
 ·exact AR.refl _
 ·simp only;rw[AQ];exact .like h.ok v2.like
 ·exact zlq _ _
 ·rename_i g;exact Ze (Classical.not_not.1 g) (by omega)
 ·simp only;rw[BV h.ok (by omega)];omega
 ·simp only;rw[AQ];simp only;omega
def kZ(h:AF w){k x y r:Nat}(hk:k=7\/k=8\/k=9)(hx:x<w.s.l.length)(hy:k≠8->y<w.s.l.length)(hr:w.s.dn x+w.s.dn y<=r):GN w (w.made k x y) 0 r:=by
 obtain⟨a1,a2⟩:=Fs h hk hx hy;have dv:=A1Y h.ok hk hx hy;have pv:=(zx h.ok k x y (by omega)).1;obtain⟨-,v2,v3,-⟩:=MW h.ok hk hx hy;refine⟨⟨a1,?_,?_⟩,a2,?_⟩
 all_goals
  unfold W.made at a1 a2 ⊢;split
 ·exact AR.refl _
 ·simp only;rw[AQ];exact .like h.ok v2.like
 ·exact zlq _ _
 ·rename_i g;exact Ze (Classical.not_not.1 g) (by omega)
 ·simp only;rw[BV h.ok (by omega)];omega
 ·simp only;rw[AQ];simp only;omega
def B1n(h:AF w){t:Ty}(ht:t.rc):GN w (w.put t) 0 t.dn:=by
 obtain⟨a1,a2⟩:=WR h ht;obtain⟨-,v2,-,-⟩:=B3f h.ok ht;have cm:=h.ok.cm;have key:(w.s.put t).1.dn (w.s.put t).2.1<=t.dn/\(w.s.put t).1.AZ<=w.s.AZ/\(w.s.put t).1.J6=w.s.J6:=by
  unfold E9.put;split
  ·exact⟨by simp only;rw[BV h.ok (by omega)];omega,z1q _,rfl⟩
  ·obtain⟨p1,p2⟩:=B8M t ht w.s h.ok (by omega);exact⟨zoq p1,p2,(Qj t ht w.s h.ok (by omega)).1.J6⟩
 obtain⟨k1,k2,k3⟩:=key;refine⟨⟨a1,?_,?_⟩,a2,?_⟩
 all_goals
  unfold W.put at a1 a2 ⊢;split
 ·exact AR.refl _
 ·simp only;rw[AQ];exact .like h.ok v2.like
 ·exact zlq _ _
 ·rename_i g;exact Ze (Classical.not_not.1 g) (by omega)
 ·simp only;rw[BV h.ok (by omega)];omega
 ·simp only;rw[AQ];simp only;omega
def Ec(h:AF w){a b:Nat}(ha:a<w.s.l.length)(hb:b<w.s.l.length)(e:Ex)(hc:w.s.dn a+w.s.dn b<=c):GC w (w.agree a b e) c:=by
 have a1:=V8 h ha hb e;obtain⟨v1,v2⟩:=A9a h.ok ha hb;refine⟨a1,?_,?_⟩
 all_goals
  unfold W.agree at a1 ⊢;split
 ·exact AR.refl _
 ·rw[AQ];exact v1
 ·exact zlq _ _
 ·rename_i g;exact Ze (Classical.not_not.1 g) (by omega)
variable {l:List Nat}
def pG{w':W}(h:GC w w' c)(hl:∀x∈l,x<w'.s.l.length):GC w (w'.Aq l) c:=⟨JM h.g hl,h.dn,h.phi⟩
def A95{w':W}(h:GC w w' c)(hl:(∀x∈l,x<w'.s.l.length)/\l.length<2 ^ 29):GC w (w'.ZU l) c:=⟨Ta h.g hl,h.dn,h.phi⟩
def A93{q:W×Nat}{r:Nat}(h:GN w q c r):GN w (W.tell q) c r:=by obtain⟨a1,a2⟩:=fJ h.c.g h.lt;exact⟨⟨a1,h.c.dn,h.c.phi⟩,a2,h.dn⟩
def A2G(h:AF w){t:Ty}(ht:t.E8≠0->t.rc)(hl:A9<2 ^ 31):GN w (w.AP t A9) 0 t.dn:=by
 unfold W.AP;split
 ·rename_i g;exact B1n h (ht g)
 ·exact(A93 (Qc h hl)).mono (z1q _) (zhq _)
def A88(h:AF w){n:Nat}(hn:n<w.s.l.length):GC w (w.above n A9).1 1:=by refine⟨(EY h hn).1,.like h.ok (V6.tick _),?_⟩;exact(by omega:w.s.J6+1+5 * w.s.AZ+(if w.err=0 then 5 else 0)<=w.s.J6+5 * w.s.AZ+(if w.err=0 then 5 else 0)+1)
def B2S{A9:Nat}(hl:A9<2 ^ 31):∀(k:Nat){w:W},AF w->(∀t∈w.types,w.s.dn t=0)->GC w (W.many A9 k w) 0/\∀t∈(W.many A9 k w).types,(W.many A9 k w).s.dn t=0
 |0,w,h,h0=>⟨GC.refl h,h0⟩
 |k+1,w,h,h0=>by
   have a:=Qc h hl;have t:=A93 a;have et:(w.fresh A9).1.types=w.types:=by
    unfold W.fresh;split
    ·rfl
    ·rw[Rn]
   rw[W.many];obtain⟨b1,b2⟩:=B2S hl k t.c.i (λx hx=>by
    simp only[W.tell,et,zcq,z6q]at hx;rcases hx with hx | rfl
    ·exact(t.c.dn x (h.ty x hx)).trans (h0 x hx)
    ·exact yfq.1 a.dn)
   exact⟨t.c.trans b1,b2⟩
def B8C(h:AF w){e:Ex}{l:List EN}(hl:A9<2 ^ 31)(hE:AB w.s.l.length l)(hD:JO w.s l D)(h0:w.types=[]):GN w (w.name e A9 l) 1 D:=by
 unfold W.name;split
 ·exact⟨⟨(Good.refl h).fails _ _,by rw[AQ];exact AR.refl _,z7q (A3J ..) (y5q _)⟩,by rw[AQ];have:=h.ok.five;simp only;omega,by rw[AQ];simp only;rw[BV h.ok (by omega)];omega⟩
 ·rename_i x hx;have hx:=zWq hx;rw[List.mem_reverse]at hx;obtain⟨x1,x2⟩:=hE x hx;split
  ·exact⟨(GC.refl h).mono (zhq _),x1,hD x hx⟩
  ·obtain⟨g,g0⟩:=B2S hl x.vars.length h (by rw[h0];simp);have ht:=ZJ (A9:=A9) x.vars.length w;simp only;generalize W.many A9 x.vars.length w=w1 at g g0 ht ⊢;have xl:=g.lt x1;have xd:=g.at x1 (hD x hx);split
   ·exact⟨g.mono (zhq _),by have:=g.i.ok.five;simp only;omega,by simp only;rw[BV g.i.ok (by omega)];omega⟩
   ·rename_i ge;obtain⟨c1,c2,c3⟩:=zA g.i.ok xl (from_:=x.vars) (to:=w1.types) (by omega) g.i.ty;obtain⟨p1,p2,p3⟩:=B6k g.i.ok xl (from_:=x.vars) (to:=w1.types) (by omega) g.i.ty g0;have G:GC w1 (({ w1 with s:=(w1.s.copy x.node x.vars w1.types).1 }:W).fails (w1.s.copy x.node x.vars w1.types).2.2 U1) 1:=⟨(g.i.s (w':={ w1 with s:=(w1.s.copy x.node x.vars w1.types).1 }) c1 c2 rfl rfl rfl).fails _ _,by rw[AQ];exact p2,Ze (Classical.not_not.1 ge) (by omega)⟩;exact⟨(g.trans G).mono (by omega),by rw[AQ];exact c3,by rw[AQ];exact z7q p1 xd⟩
structure PC(x y:PS)(e:Nat):Prop where
 g:Tu x y
 dn:AR x.s y.s
 cost:y.s.J6+5 * y.s.AZ<=x.s.J6+5 * x.s.AZ+if e=0 then 0 else 5
 nd:(∀n∈x.nodes,n<x.s.l.length/\x.s.dn n=0)->∀n∈y.nodes,y.s.dn n=0
def PC.trans{x y z:PS}{e:Nat}(h:PC x y 0)(k:PC y z e):PC x z e where
 g:=h.g.trans k.g
 dn:=AR.trans h.g.ext.le h.dn k.dn
 cost:=by have h1:=h.cost;have h2:=k.cost;rw[C9 rfl]at h1;omega
 nd a:=k.nd λn hn=>⟨h.g.nd (λn hn=>(a n hn).1) n hn,h.nd a n hn⟩
def A64{x:PS}(ok:x.s.Ok){lo hi:Int}{a b:Nat}(ha:a<x.s.l.length)(hb:b<x.s.l.length)(a0:x.s.dn a=0)(b0:x.s.dn b=0):PC x (x.agree lo hi a b).1 (x.agree lo hi a b).2:=by obtain⟨v1,v2⟩:=A9a ok ha hb;exact⟨iK ok ha hb,v1,by rw[a0,b0]at v2;exact v2,λg n hn=>(v1 n (g n hn).1).trans (g n hn).2⟩
def A9K{x:PS}(ok:x.s.Ok)(hl:A9<2 ^ 31){lo hi:Int}{n k many:Nat}(hk:k=7/\many=2\/k=8/\many=1)(hn:n<x.s.l.length)(n0:x.s.dn n=0):
 PC x (x.made A9 lo hi n k many).1 (x.made A9 lo hi n k many).2.2.2/\(∀y∈(x.made A9 lo hi n k many).2.1,(x.made A9 lo hi n k many).1.s.dn y=0)/\(x.made A9 lo hi n k many).1.s.dn (x.made A9 lo hi n k many).2.2.1=0:=by
 have PG:=NK ok hl (lo:=lo) (hi:=hi) (n:=n) hk hn;obtain⟨pg,-,-,-⟩:=PG;obtain⟨f1,f2,f3,f4,f5',f6⟩:=LJ hl many x.s ok;have fd:=zF hl many x.s ok;have fp:=uu hl many x.s ok;unfold PS.made at pg ⊢;simp only at pg ⊢;generalize E9.fresh A9 many x.s=q at f1 f2 f3 f4 f5' f6 fd fp pg ⊢;have D1:AR x.s q.1:=.like ok f2.like;split
 ·rename_i g;rw[C9 g]at pg;exact⟨⟨pg,D1,by simp only;omega,λg n hn=>(D1 n (g n hn).1).trans (g n hn).2⟩,by simp,BV f1 (j:=0) (by omega)⟩
 ·rename_i g;rw[A7 g]at pg;have g0:q.2.2=0:=Classical.not_not.1 g;have ql:=f6 g0;have p0:∀i,i<many->q.2.1.getD i 0<q.1.l.length/\q.1.dn (q.2.1.getD i 0)=0:=by intro i hi;rw[z5q,z4q (by omega)];exact⟨f5' _ (z9q (by omega)),fd _ (z9q (by omega))⟩
  have q0:=p0 0 (by omega);have q1:=p0 (many-1) (by omega);obtain⟨m1,m2,m3,m4,m5,m6⟩:=MW f1 (k:=k) (x:=q.2.1.getD 0 0) (y:=q.2.1.getD (many-1) 0) (by omega) q0.1 (λ_=>q1.1);have md:=A1Y f1 (k:=k) (a:=q.2.1.getD 0 0) (b:=q.2.1.getD (many-1) 0) (by omega) q0.1 (λ_=>q1.1);have mp:=(zx f1 k (q.2.1.getD 0 0) (q.2.1.getD (many-1) 0) (by omega)).1;rw[q0.2,q1.2]at md;generalize q.1.make k (q.2.1.getD 0 0) (q.2.1.getD (many-1) 0)=z at m1 m2 m3 m4 m5 m6 md mp pg ⊢;have D2:AR x.s z.1:=AR.trans f2.le D1 (.like f1 m2.like);have e2:x.s.l.length<=z.1.l.length:=z7q f2.le m2.le;split
  ·rename_i gz;rw[C9 gz]at pg;exact⟨⟨pg,D2,by simp only;omega,λg n hn=>(D2 n (g n hn).1).trans (g n hn).2⟩,by simp,BV m1 (j:=0) (by omega)⟩
  ·have A:=A64 (x:={ x with s:=z.1 }) m1 (lo:=lo) (hi:=hi) (a:=n) (b:=z.2.1) (z0q hn e2) m4 ((D2 n hn).trans n0) (by simp only;omega);rename_i gz;rw[A7 gz]at pg;have Ad:AR z.1 (({ x with s:=z.1 }:PS).agree lo hi n z.2.1).1.s:=A.dn;refine⟨⟨pg,AR.trans e2 D2 Ad,?_,λg=>A.nd λn hn=>⟨z0q (g n hn).1 e2,(D2 n (g n hn).1).trans (g n hn).2⟩⟩,λy hy=>?_,?_⟩
   ·have:=A.cost;simp only at this ⊢;omega
   ·rw[Ad y (z0q (f5' y hy) m2.le),AR.like f1 m2.like y (f5' y hy)];exact fd y hy
   ·rw[Ad _ m4];omega
mutual
theorem B27{A9:Nat}(hl:A9<2 ^ 31):∀(p:F6)(nd:Nat)(x:PS),x.s.Ok->nd<x.s.l.length->x.s.dn nd=0->p.pat=true->PC x (CP A9 p nd x).1 (CP A9 p nd x).2
 |.mk k lo hi name n s ks,nd,x,ok,hn,hz,hp=>by
   have hp':=hp;rw[F6.ut,z8q,zdq]at hp';obtain⟨h1,h2⟩:=hp';obtain⟨RA,Yh⟩:=F6.A2D h1;simp only[F6.Gb,F6.S9]at RA Yh h2;have f5:=ok.five;rw[CP];split
   ·exact⟨⟨ok,Y3.refl _,λg=>g⟩,AR.refl _,z1q _,λg n hn=>(g n hn).2⟩
   ·split
    ·refine⟨⟨ok,Y3.refl _,λg m hm=>?_⟩,AR.refl _,z1q _,λg m hm=>?_⟩
     all_goals rcases zcq.1 hm with hm | hm
     ·exact g m hm
     ·rw[z6q.1 hm];exact hn
     ·exact(g m hm).2
     ·rw[z6q.1 hm];exact hz
    ·split
     ·rename_i k7;obtain⟨a1,a2,a3,a4⟩:=NK ok hl (lo:=lo) (hi:=hi) (n:=nd) (k:=7) (many:=2) (.inl ⟨rfl,rfl⟩) hn;obtain⟨c1,c2,c3⟩:=A9K ok hl (lo:=lo) (hi:=hi) (n:=nd) (k:=7) (many:=2) (.inl ⟨rfl,rfl⟩) hn hz;generalize x.made A9 lo hi nd 7 2=q at a1 a2 a3 a4 c1 c2 c3 ⊢;split
      ·exact c1
      ·rename_i g;have q0:q.2.2.2=0:=Classical.not_not.1 g;rw[q0]at c1;exact c1.trans (A65 hl ks q.2.1 q.1 a1.ok (by rw[a4 q0,RA (.inl k7)];exact z1q _) a2 c2 h2)
     ·split
      ·rename_i k89;obtain⟨a1,a2,a3,a4⟩:=NK ok hl (lo:=lo) (hi:=hi) (n:=nd) (k:=8) (many:=1) (.inr ⟨rfl,rfl⟩) hn;obtain⟨c1,c2,c3⟩:=A9K ok hl (lo:=lo) (hi:=hi) (n:=nd) (k:=8) (many:=1) (.inr ⟨rfl,rfl⟩) hn hz;generalize x.made A9 lo hi nd 8 1=q at a1 a2 a3 a4 c1 c2 c3 ⊢;split
       ·exact c1
       ·rename_i g;have k9:k=9:=by
         rcases k89 with h | h
         ·exact absurd (.inr h) g
         ·exact h
        have q0:q.2.2.2=0:=Classical.not_not.1 λh=>g (.inl h);rw[q0]at c1;refine c1.trans (A65 hl ks _ q.1 a1.ok (by rw[zEq,a4 q0,RA (.inr k9)];exact z1q _) (λy hy=>?_) (λy hy=>?_) h2)
        all_goals rcases zcq.1 hy with hy | hy
        ·exact a2 y hy
        ·rw[z6q.1 hy];exact a3
        ·exact c2 y hy
        ·rw[z6q.1 hy];exact c3
      ·have:(k-3).toNat<4:=by omega
       exact A64 ok hn (by omega) hz (BV ok this)
theorem A65{A9:Nat}(hl:A9<2 ^ 31):∀(ps:List F6)(ns:List Nat)(x:PS),x.s.Ok->ps.length<=ns.length->(∀n∈ns,n<x.s.l.length)->(∀n∈ns,x.s.dn n=0)->(∀p∈ps,p.pat=true)->PC x (Fw A9 ps ns x).1 (Fw A9 ps ns x).2
 |[],ns,x,ok,_,_,_,_=>by rw[Fw];exact⟨⟨ok,Y3.refl _,λg=>g⟩,AR.refl _,z1q _,λg n hn=>(g n hn).2⟩
 |p::ps,[],x,ok,J5,_,_,_=>by simp at J5
 |p::ps,n::ns,x,ok,J5,hn,hz,hp=>by
   have a:=B27 hl p n x ok (hn n (z3q ..)) (hz n (z3q ..)) (hp p (z3q ..));rw[A2H];by_cases g:(CP A9 p n x).2≠0
   ·rw[C9 g];exact a
   ·rw[A7 g];rw[Classical.not_not.1 g]at a;exact a.trans (A65 hl ps ns _ a.g.ok (by simpa using J5) (λm hm=>z0q (hn m (z2q _ hm)) a.g.ext.le) (λm hm=>(a.dn m (hn m (z2q _ hm))).trans (hz m (z2q _ hm))) λq hq=>hp q (z2q _ hq))
end
end Go.Su

/-
 HOW MANY ROUNDS an inference takes.
-/
namespace Go.Su
def Cx(n c:Nat):Prop:=1<=c/\c ^ 5<=4 ^ (n+1)
theorem Cx.one(n:Nat):Cx n 1:=⟨z1q _,by rw[Nat.one_pow];exact Nat.one_le_pow _ _ (by omega)⟩
variable {c:Nat}
theorem Cx.mono{n m:Nat}(h:Cx n c)(le:n<=m):Cx m c:=⟨h.1,z7q h.2 (zFq (by omega) (by omega))⟩
theorem Cx.mul{n m x y:Nat}(h:Cx n x)(k:Cx m y):Cx (n+m+1) (x * y):=⟨Nat.mul_pos h.1 k.1,by rw[ygq,show n+m+1+1=(n+1)+(m+1)by omega,Nat.pow_add];exact zNq h.2 k.2⟩
theorem Cx.succ{n x:Nat}(h:Cx n x)(hn:1<=n):Cx (n+1) (x+1):=by
 refine⟨by omega,?_⟩;obtain⟨h1,h2⟩:=h;rcases zvq x 4 with g | g
 ·have pw:∀m,m<=n->4 ^ (m+2)<=4 ^ (n+2):=λm hm=>zFq (by omega) (by omega);have:x=1\/x=2\/x=3:=by omega
  rcases this with rfl | rfl | rfl
  ·exact z7q (by decide) (pw 1 hn)
  ·have:2<=n:=by
    rcases zvq n 2 with g | g
    ·have:n=1:=by omega
     subst this;exact absurd h2 (by decide)
    ·exact g
   exact z7q (by decide) (pw 2 this)
  ·have:3<=n:=by
    rcases zvq n 3 with g | g
    ·have:n=1\/n=2:=by omega
     rcases this with rfl | rfl
     ·exact absurd h2 (by decide)
     ·exact absurd h2 (by decide)
    ·exact g
   exact z7q (by decide) (pw 3 this)
 ·have a:(4 * (x+1)) ^ 5<=(5 * x) ^ 5:=zIq (by omega) 5;rw[ygq,ygq]at a;have e:4 ^ (n+1+1)=4 * 4 ^ (n+1):=by rw[Nat.pow_succ];omega
  have e1:(4:Nat) ^ 5=1024:=rfl;have e2:(5:Nat) ^ 5=3125:=rfl;rw[e1,e2]at a;rw[e];omega
theorem Cx.add{n m x y:Nat}(h:Cx n x)(k:Cx m y)(hn:1<=n)(hm:1<=m):Cx (n+m+1) (x+y):=by
 by_cases g1:x=1
 ·subst g1;rw[Nat.add_comm 1 y];exact(k.succ hm).mono (m:=n+m+1) (by omega)
 by_cases g2:y=1
 ·subst g2;exact(h.succ hn).mono (m:=n+m+1) (by omega)
 ·have h1:=h.1;have k1:=k.1;obtain⟨z1,z2⟩:=h.mul k;refine⟨by omega,z7q (zIq ?_ 5) z2⟩;obtain⟨a,rfl⟩:∃a,x=a+2:=⟨x-2,by omega⟩;obtain⟨b,rfl⟩:∃b,y=b+2:=⟨y-2,by omega⟩;rw[zeq,Nat.mul_add];have:=zhq (a * b);omega
theorem Cx.max{n x y:Nat}(h:Cx n x)(k:Cx n y):Cx n (max x y):=by
 rcases Nat.le_total x y with g | g
 ·rw[Nat.max_eq_right g];exact k
 ·rw[Nat.max_eq_left g];exact h
inductive DC(D:Nat):Ex->Prop
 |mk {e:Ex}:2 * e.a.dn<=D->2 * e.b.dn<=D->(∀k∈e.D5,DC D k)->DC D e
variable {D:Nat}{e:Ex}
theorem DC.mono{D':Nat}(le:D<=D')(h:DC D e):DC D' e:=by
 induction h with
 |mk a b _ ih=>exact .mk (by omega) (by omega) ih
theorem DC.a(h:DC D e):2 * e.a.dn<=D:=by cases h;assumption
theorem DC.b(h:DC D e):2 * e.b.dn<=D:=by cases h;assumption
variable {k:Ex}
theorem DC.kid(h:DC D e)(hk:k∈e.D5):DC D k:=by cases h with | mk _ _ h=>exact h k hk
def xc(R:Rec)(e:Ex)(c:Nat):Prop:=∀(A9:Nat)(l:List EN)(w:W)(D X:Nat),A9+e.size<2 ^ 30->AF w->AB w.s.l.length l->1<=D->DC D e->JO w.s l D->c * D<=X->AR w.s (R e A9 l w).1.s/\(R e A9 l w).1.phi<=w.phi+(3 * (e.size * X)-2 * X)/\(R e A9 l w).1.s.dn (R e A9 l w).2.1<=X
theorem xc.mono{R:Rec}{c':Nat}(h:xc R e c)(le:c<=c'):xc R e c':=λA9 l w D X a b d f g i j=>h A9 l w D X a b d f g i (z7q (y2q D le) j)
theorem TZ(e:Ex)(X:Nat):X<=e.size * X:=zzq X (by have:=e.size_eq;omega)
section
variable {R:Rec}{w:W}{A9 D X:Nat}{l:List EN}
theorem B2M(hR:EX R e)(hC:xc R e c)(hl:A9+e.size<2 ^ 30)(h:AF w)(hE:AB w.s.l.length l)(hD:1<=D)(hA:DC D e)(hd:JO w.s l D)(hX:c * D<=X):GN w (L6 R w e A9 l) (3 * (e.size * X)-2 * X) X:=by
 obtain⟨a1,a2⟩:=A6E hR hl h hE;obtain⟨c1,c2,c3⟩:=hC A9 l w D X hl h hE hD hA hd hX;refine⟨⟨a1,?_,?_⟩,a2,?_⟩
 all_goals
  unfold L6 at a1 a2 ⊢;split
 ·exact AR.refl _
 ·exact c1
 ·exact zlq _ _
 ·exact c2
 ·simp only;rw[BV h.ok (by omega)];omega
 ·exact c3
theorem B2L(hC:xc R e c)(hl:A9+e.size<2 ^ 30)(h:AF w)(hE:AB w.s.l.length l)(hD:1<=D)(hA:DC D e)(hd:JO w.s l D):(L6 R w e A9 l).1.s.dn (L6 R w e A9 l).2<=c * D:=by
 obtain⟨c1,c2,c3⟩:=hC A9 l w D _ hl h hE hD hA hd (z1q _);unfold L6;split
 ·simp only;rw[BV h.ok (by omega)];omega
 ·exact c3
structure KC(R:Rec)(A9 D c:Nat)(k:Ex):Prop where
 good:EX R k
 cost:xc R k c
 lv:A9+1+k.size<2 ^ 30
 ann:DC D k
theorem KC.run(K:KC R A9 D c k)(h:AF w)(hE:AB w.s.l.length l)(hD:1<=D)(hd:JO w.s l D)(hX:c * D<=X):GN w (L6 R w k A9 l) (3 * (k.size * X)-2 * X) X:=B2M K.good K.cost (by have:=K.lv;omega) h hE hD K.ann hd hX
theorem KC.B8T(K:KC R A9 D c k)(h:AF w)(hE:AB w.s.l.length l)(hD:1<=D)(hd:JO w.s l D)(hX:c * D<=X):GN w (L6 R w k (A9+1) l) (3 * (k.size * X)-2 * X) X:=B2M K.good K.cost K.lv h hE hD K.ann hd hX
theorem KC.dn(K:KC R A9 D c k)(h:AF w)(hE:AB w.s.l.length l)(hD:1<=D)(hd:JO w.s l D):(L6 R w k A9 l).1.s.dn (L6 R w k A9 l).2<=c * D:=B2L K.cost (by have:=K.lv;omega) h hE hD K.ann hd
theorem KC.dn1(K:KC R A9 D c k)(h:AF w)(hE:AB w.s.l.length l)(hD:1<=D)(hd:JO w.s l D):(L6 R w k (A9+1) l).1.s.dn (L6 R w k (A9+1) l).2<=c * D:=B2L K.cost K.lv h hE hD K.ann hd
theorem KC.up{D':Nat}(K:KC R A9 D c k)(le:D<=D'):KC R A9 D' c k:=⟨K.good,K.cost,K.lv,K.ann.mono le⟩
variable {c0 c1 c2:Nat}(hD:1<=D)(h:AF w)(hE:AB w.s.l.length l)(hd:JO w.s l D)
include hD h hE hd
theorem B7R(K0:KC R A9 D c0 (e.kd 0))(K1:KC R A9 D c1 (e.kd 1))(x0:c0 * D<=X)(x1:c1 * D<=X):GN w (QZ R w e A9 l) (3 * ((e.kd 0).size * X)+3 * ((e.kd 1).size * X)) X:=by
 have lb:A9<2 ^ 31:=by have:=K0.lv;omega
 have s0:=TZ (e.kd 0) X;have s1:=TZ (e.kd 1) X;have A:=K0.run h hE hD hd x0;unfold QZ;simp only;generalize L6 R w (e.kd 0) A9 l=a at A ⊢;obtain⟨a1,a2,a3⟩:=A;have B:=K1.run a1.i (hE.mono a1.ext.le) hD (hd.mono hE a1.dn (z1q _)) x1;generalize L6 R a.1 (e.kd 1) A9 l=b at B ⊢;obtain⟨b1,b2,b3⟩:=B;have V:=Qc b1.i lb;generalize b.1.fresh A9=v at V ⊢;obtain⟨v1,v2,v3⟩:=V;have t1:=pG v1 (l:=[v.2]) (by simpa using v2);have al:=v1.lt (b1.lt a2);have g1:=Ec t1.i (a:=a.2) (b:=v.2) al v2 (e.kd 0) (c:=X) (by have e1:=v1.at (b1.lt a2) (b1.at a2 a3);exact y4q e1 v3)
 have vl:=g1.lt (show v.2<(v.1.Aq [v.2]).s.l.length from v2);have vd:=g1.at (show v.2<(v.1.Aq [v.2]).s.l.length from v2) v3;have bl:=g1.lt (show b.2<(v.1.Aq [v.2]).s.l.length from v1.lt b2);have bd:=g1.at (show b.2<(v.1.Aq [v.2]).s.l.length from v1.lt b2) (v1.at b2 b3);generalize (v.1.Aq [v.2]).agree a.2 v.2 (e.kd 0)=w1 at g1 vl vd bl bd ⊢;have N:=kZ g1.i (k:=8) (x:=v.2) (y:=0) (r:=0) (.inr (.inl rfl)) vl (λh=>absurd rfl h) (by rw[BV g1.i.ok (j:=0) (by omega)];exact vd);generalize w1.made 8 v.2 0=n at N ⊢;obtain⟨n1,n2,n3⟩:=N;have g2:=Ec n1.i (a:=b.2) (b:=n.2) (n1.lt bl) n2 (e.kd 1) (c:=X) (by have:=n1.at bl bd;omega);exact⟨((((((a1.trans b1).trans t1).trans g1).trans n1).trans g2)).mono (by omega),g2.lt n2,z7q (g2.at n2 n3) (zhq _)⟩
theorem B7F{f a:Nat}(hl:A9<2 ^ 31)(fl:f<w.s.l.length)(al:a<w.s.l.length)(fd:w.s.dn f<=X)(ad:w.s.dn a<=X)(hX:1<=X):GN w (gG w f a e A9) (2 * X+X) X:=by
 have f5:=h.ok.five;unfold gG;split
 ·exact⟨(GC.refl h).mono (zhq _),by simp only;omega,by simp only;rw[BV h.ok (by omega)];omega⟩
 split
 ·have g:=Ec h (a:=a) (b:=4) al (by omega) (e.kd 1) (c:=X+1) (by rw[nV h.ok];omega);exact⟨g.mono (by omega),g.lt (by omega),g.at (by omega) (by rw[nV h.ok];exact hX)⟩
 split
 ·simp only
  have V:=Qc h hl;generalize w.fresh A9=v at V ⊢;obtain⟨v1,v2,v3⟩:=V;have U:=Qc v1.i hl;generalize v.1.fresh A9=u at U ⊢;obtain⟨u1,u2,u3⟩:=U;have M:=kZ u1.i (k:=9) (x:=v.2) (y:=u.2) (r:=0) (.inr (.inr rfl)) (u1.lt v2) (λ_=>u2) (by have:=u1.at v2 v3;omega);generalize u.1.made 9 v.2 u.2=m at M ⊢;obtain⟨m1,m2,m3⟩:=M;have g1:=Ec m1.i (a:=f) (b:=m.2) (m1.lt (u1.lt (v1.lt fl))) m2 (e.kd 0) (c:=X) (by have:=m1.at (u1.lt (v1.lt fl)) (u1.at (v1.lt fl) (v1.at fl fd));omega);have g2:=Ec g1.i (a:=a) (b:=v.2) (g1.lt (m1.lt (u1.lt (v1.lt al)))) (g1.lt (m1.lt (u1.lt v2))) (e.kd 1) (c:=X) (by have e1:=g1.at (m1.lt (u1.lt (v1.lt al))) (m1.at (u1.lt (v1.lt al)) (u1.at (v1.lt al) (v1.at al ad)));have e2:=g1.at (m1.lt (u1.lt v2)) (m1.at (u1.lt v2) (u1.at v2 v3));omega)
  exact⟨((((v1.trans u1).trans m1).trans g1).trans g2).mono (by omega),g2.lt (g1.lt (m1.lt u2)),z7q (g2.at (g1.lt (m1.lt u2)) (g1.at (m1.lt u2) (m1.at u2 u3))) (zhq _)⟩
 split
 ·rename_i k9;have kn:=h.ok.YM (h.ok.Fu fl);rw[k9]at kn;have ks:=WA h.ok fl;have two:∃x y,w.s.I6 (w.s.root f)=[x,y]:=by
   match hk:w.s.I6 (w.s.root f),kn with
   |[x,y],_=>exact⟨x,y,rfl⟩
  obtain⟨x,y,hxy⟩:=two;have lx:x<w.s.l.length:=h.ok.Ou fl (by rw[hxy];simp);have ly:y<w.s.l.length:=h.ok.Ou fl (by rw[hxy];simp);rw[hxy]at ks ⊢;simp only[zbq,zAq,zgq,yeq]at ks;have g:=Ec h (a:=a) (b:=x) al lx (e.kd 1) (c:=2 * X) (by omega);have e1:w.s.dn y<=X:=by omega
  exact⟨g.mono (by omega),g.lt ly,g.at ly e1⟩
 ·exact⟨⟨(Good.refl h).fails _ _,by simp only;rw[AQ];exact AR.refl _,z7q (A3J ..) (zlq _ _)⟩,by rw[AQ];simp only;omega,by rw[AQ];simp only;rw[BV h.ok (by omega)];omega⟩
theorem B9g(K0:KC R A9 D c0 (e.kd 0))(K1:KC R A9 D c1 (e.kd 1))(x0:c0 * D<=X)(x1:c1 * D<=X)(hX:1<=X):GN w (Vx R w e A9 l) (3 * ((e.kd 0).size * X)+3 * ((e.kd 1).size * X)) X:=by
 have lb:A9<2 ^ 31:=by have:=K0.lv;omega
 have s0:=TZ (e.kd 0) X;have s1:=TZ (e.kd 1) X;have A:=K0.run h hE hD hd x0;unfold Vx;simp only;generalize L6 R w (e.kd 0) A9 l=f at A ⊢;obtain⟨a1,a2,a3⟩:=A;have B:=K1.run a1.i (hE.mono a1.ext.le) hD (hd.mono hE a1.dn (z1q _)) x1;generalize L6 R f.1 (e.kd 1) A9 l=a at B ⊢;obtain⟨b1,b2,b3⟩:=B;have ab:=a1.trans b1;exact(ab.n (B7F hD b1.i (hE.mono ab.ext.le) (hd.mono hE ab.dn (z1q _)) lb (b1.lt a2) b2 (b1.at a2 a3) b3 hX)).mono (by omega) (z1q _)
end
end Go.Su

/-
 HOW MANY ROUNDS an inference takes: the other kinds of expressions; the bound.
-/
namespace Go.Su
section
variable {R:Rec}{w:W}{A9 D X:Nat}{l:List EN}{c0 c1 c2:Nat}(hD:1<=D)(h:AF w)(hE:AB w.s.l.length l)(hd:JO w.s l D)
include hD h hE hd
variable {e:Ex}
theorem B9H(K0:KC R A9 D c0 (e.kd 0))(K1:KC R A9 D c1 (e.kd 1))(hA:DC D e)(ha:e.a.E8≠0->e.a.rc)(z0:1<=c0)(z1:1<=c1)(hX:c0 * c1 * D<=X):GN w (WN R w e A9 l) (3 * ((e.kd 0).size * X)+3 * ((e.kd 1).size * X)) X:=by
 have lb:A9<2 ^ 31:=by have:=K0.lv;omega
 have s0:=TZ (e.kd 0) X;have s1:=TZ (e.kd 1) X;have d0:D<=c0 * D:=zzq D z0;have x1:c1 * (c0 * D)<=X:=by rw[<- Nat.mul_assoc,Nat.mul_comm c1 c0];exact hX
 have x0:c0 * D<=X:=z7q (zzq _ z1) x1;have x1':c1 * D<=X:=z7q (Nat.mul_le_mul_left c1 d0) x1;have ann:=hA.a;unfold WN;split
 ·rename_i k;have A:=K0.run h hE hD hd x0;simp only;generalize L6 R w (e.kd 0) A9 l=a at A ⊢;obtain⟨a1,a2,a3⟩:=A;have N:=B1n a1.i (ha k);generalize a.1.put e.a=n at N ⊢;obtain⟨n1,n2,n3⟩:=N;have g:=Ec n1.i (a:=a.2) (b:=n.2) (n1.lt a2) n2 (e.kd 0) (c:=2 * X) (by have:=n1.at a2 a3;omega);have ag:=(a1.trans n1).trans g;have fl:=g.lt n2;have fd:=g.at n2 n3;generalize n.1.agree a.2 n.2 (e.kd 0)=w1 at g ag fl fd ⊢;exact(ag.n (K1.run ag.i ((hE.mono ag.ext.le).app (AB.one (s:=e.name) fl)) hD ((hd.mono hE ag.dn (z1q _)).app (JO.one (z7q fd (by omega)))) x1')).mono (by omega) (z1q _)
 split
 ·have A:=K0.B8T h hE hD hd x0;have B:=K0.dn1 h hE hD hd;simp only;generalize L6 R w (e.kd 0) (A9+1) l=a at A B ⊢;obtain⟨a1,a2,a3⟩:=A;split
  ·exact(a1.n ((K1.up d0).run a1.i ((hE.mono a1.ext.le).app (AB.one a2)) (by omega) ((hd.mono hE a1.dn d0).app (JO.one B)) x1)).mono (by omega) (z1q _)
  ·obtain⟨-,q2⟩:=EY a1.i (n:=a.2) (A9:=A9) a2;have C:=A88 a1.i (n:=a.2) (A9:=A9) a2;generalize a.1.above a.2 A9=q at q2 C ⊢;have v:=A95 C q2;have av:=a1.trans v;exact(av.n ((K1.up d0).run v.i ((hE.mono av.ext.le).app λx hx=>by rw[z6q.1 hx];exact⟨v.lt a2,q2.1⟩) (by omega) ((hd.mono hE av.dn d0).app (JO.one (v.at a2 B))) x1)).mono (by omega) (z1q _)
 ·have A:=K0.run h hE hD hd x0;have B:=K0.dn h hE hD hd;simp only;generalize L6 R w (e.kd 0) A9 l=a at A B ⊢;obtain⟨a1,a2,a3⟩:=A;exact(a1.n ((K1.up d0).run a1.i ((hE.mono a1.ext.le).app (AB.one a2)) (by omega) ((hd.mono hE a1.dn d0).app (JO.one B)) x1)).mono (by omega) (z1q _)
theorem B9M(K0:KC R A9 D c0 (e.kd 0))(K1:KC R A9 D c1 (e.kd 1))(hA:DC D e)(ha:e.a.E8≠0->e.a.rc)(hb:e.b.E8≠0->e.b.rc)(x0:c0 * D<=X)(x1:c1 * D<=X)(hX:D<=X):GN w (WS R w e A9 l) (3 * ((e.kd 0).size * X)+3 * ((e.kd 1).size * X)) X:=by
 have lb:A9+1<2 ^ 31:=by have:=K0.lv;omega
 have s0:=TZ (e.kd 0) X;have s1:=TZ (e.kd 1) X;have ann:=hA.a;have bnn:=hA.b;unfold WS;simp only;have P:=A2G h (A9:=A9+1) ha lb;generalize w.AP e.a (A9+1)=p at P ⊢;obtain⟨p1,p2,p3⟩:=P;have Q:=A2G p1.i (A9:=A9+1) hb lb;generalize p.1.AP e.b (A9+1)=r at Q ⊢;obtain⟨r1,r2,r3⟩:=Q;have F:=kZ r1.i (k:=9) (x:=p.2) (y:=r.2) (r:=D) (.inr (.inr rfl)) (r1.lt p2) (λ_=>r2) (by have:=r1.at p2 p3;omega);generalize r.1.made 9 p.2 r.2=f at F ⊢;obtain⟨f1,f2,f3⟩:=F;have pf:=(p1.trans r1).trans f1;have pd:=f1.at (r1.lt p2) (r1.at p2 p3);have B:=K0.B8T (l:=l++[⟨e.name,f.2,[]⟩,⟨e.arg,p.2,[]⟩]) f1.i ((hE.mono pf.ext.le).app λx hx=>by
  simp only[zfq,zCq,or_false]at hx;rcases hx with rfl | rfl
  ·exact⟨f2,by simp⟩
  ·exact⟨f1.lt (r1.lt p2),by simp⟩) hD ((hd.mono hE pf.dn (z1q _)).app λx hx=>by
  simp only[zfq,zCq,or_false]at hx;rcases hx with rfl | rfl
  ·exact f3
  ·exact z7q pd (by omega)) x0
 generalize L6 R f.1 (e.kd 0) (A9+1) (l++[⟨e.name,f.2,[]⟩,⟨e.arg,p.2,[]⟩])=b at B ⊢;obtain⟨b1,b2,b3⟩:=B;have g:=Ec b1.i (a:=b.2) (b:=r.2) b2 (b1.lt (f1.lt r2)) (e.kd 0) (c:=2 * X) (by have:=b1.at (f1.lt r2) (f1.at r2 r3);omega);generalize b.1.agree b.2 r.2 (e.kd 0)=w1 at g ⊢;have pg:=(pf.trans b1).trans g;have fl:=g.lt (b1.lt f2);have fd:=g.at (b1.lt f2) (b1.at f2 f3);split
 ·exact(pg.n (K1.run pg.i ((hE.mono pg.ext.le).app (AB.one fl)) hD ((hd.mono hE pg.dn (z1q _)).app (JO.one fd)) x1)).mono (by omega) (z1q _)
 ·obtain⟨-,q2⟩:=EY g.i (n:=f.2) (A9:=A9) fl;have C:=A88 g.i (n:=f.2) (A9:=A9) fl;generalize w1.above f.2 A9=q at q2 C ⊢;have v:=A95 C q2;have av:=pg.trans v;exact(av.n (K1.run v.i ((hE.mono av.ext.le).app λx hx=>by rw[z6q.1 hx];exact⟨v.lt fl,q2.1⟩) hD ((hd.mono hE av.dn (z1q _)).app (JO.one (v.at fl fd))) x1)).mono (by omega) (z1q _)
theorem B7Q(K0:KC R A9 D c0 (e.kd 0))(K1:KC R A9 D c1 (e.kd 1))(K2:KC R A9 D c2 (e.kd 2))(x0:c0 * D<=X)(x1:c1 * D<=X)(x2:c2 * D<=X):GN w (QY R w e A9 l) (3 * ((e.kd 0).size * X)+3 * ((e.kd 1).size * X)+3 * ((e.kd 2).size * X)) X:=by
 have lb:A9<2 ^ 31:=by have:=K0.lv;omega
 have s0:=TZ (e.kd 0) X;have s1:=TZ (e.kd 1) X;have s2:=TZ (e.kd 2) X;unfold QY;simp only;have A:=K0.run h hE hD hd x0;generalize L6 R w (e.kd 0) A9 l=c at A ⊢;obtain⟨q1,q2,q3⟩:=A;have f5:=q1.i.ok.five;have g0:=Ec q1.i (a:=c.2) (b:=1) q2 (by omega) (e.kd 0) (c:=X) (by rw[BV q1.i.ok (j:=1) (by omega)];exact q3);have cg:=q1.trans g0;generalize c.1.agree c.2 1 (e.kd 0)=w0 at g0 cg ⊢;have A:=K1.run cg.i (hE.mono cg.ext.le) hD (hd.mono hE cg.dn (z1q _)) x1;generalize L6 R w0 (e.kd 1) A9 l=a at A ⊢;obtain⟨a1,a2,a3⟩:=A;have ca:=cg.trans a1;have B:=K2.run ca.i (hE.mono ca.ext.le) hD (hd.mono hE ca.dn (z1q _)) x2;generalize L6 R a.1 (e.kd 2) A9 l=b at B ⊢;obtain⟨b1,b2,b3⟩:=B;have V:=Qc b1.i lb;generalize b.1.fresh A9=v at V ⊢;obtain⟨v1,v2,v3⟩:=V;have t1:=pG v1 (l:=[v.2]) (by simpa using v2);have al:a.2<(v.1.Aq [v.2]).s.l.length:=v1.lt (b1.lt a2);have ad:(v.1.Aq [v.2]).s.dn a.2<=X:=v1.at (b1.lt a2) (b1.at a2 a3);have bl:b.2<(v.1.Aq [v.2]).s.l.length:=v1.lt b2;have bd:(v.1.Aq [v.2]).s.dn b.2<=X:=v1.at b2 b3;have vl:v.2<(v.1.Aq [v.2]).s.l.length:=v2;have vd:(v.1.Aq [v.2]).s.dn v.2<=0:=v3;generalize v.1.Aq [v.2]=w1 at t1 al ad bl bd vl vd ⊢;have g1:=Ec t1.i (a:=a.2) (b:=v.2) al vl (e.kd 1) (c:=X) (by omega);have bl':=g1.lt bl;have bd':=g1.at bl bd;have vl':=g1.lt vl;have vd':=g1.at vl vd;generalize w1.agree a.2 v.2 (e.kd 1)=w2 at g1 bl' bd' vl' vd' ⊢;have g2:=Ec g1.i (a:=b.2) (b:=v.2) bl' vl' (e.kd 2) (c:=X) (by omega);exact⟨((((ca.trans b1).trans t1).trans g1).trans g2).mono (by omega),g2.lt vl',z7q (g2.at vl' vd') (zhq _)⟩
end
theorem B13{R:Rec}{A9 D X c r v:Nat}{l:List EN}(hD:1<=D)(hX:c * D<=X)(hl:A9<2 ^ 31):∀(rs:List (F6×Ex))(w:W),(∀a∈rs,KC R A9 D c a.2/\a.1.pat=true)->AF w->AB w.s.l.length l->JO w.s l D->v<w.s.l.length->r<w.s.l.length->w.s.dn v=0->w.s.dn r=0->GN w (E_ R A9 l v r rs w) (3 * ((rs.map λa=>a.2.size).sum * X)) X
 |[],w,_,h,hE,hd,hv,hr,v0,r0=>⟨(GC.refl h).mono (zhq _),hr,by simp only[E_];omega⟩
 | (p,k)::rs,w,ha,h,hE,hd,hv,hr,v0,r0=>by
   obtain⟨K,h3⟩:=ha _ (z3q ..);have sk:=TZ k X;rw[E_];split
   ·exact⟨(GC.refl h).mono (zhq _),by have:=h.ok.five;simp only;omega,by simp only;rw[BV h.ok (by omega)];omega⟩
   ·rename_i g;simp only;have P:=B27 hl p v ⟨w.s,[],[],U1⟩ h.ok hv v0 h3;generalize CP A9 p v ⟨w.s,[],[],U1⟩=q at P ⊢;have g0:Good w ({ w with s:=q.1.s }:W):=h.s (w':={ w with s:=q.1.s }) P.g.ok P.g.ext rfl rfl rfl;have hs:(({ w with s:=q.1.s }:W).fails q.2 q.1.bad).s=q.1.s:=AQ ..;have g1:GC w (({ w with s:=q.1.s }:W).fails q.2 q.1.bad) 0:=⟨g0.fails q.2 q.1.bad,by rw[hs];exact P.dn,Ze (Classical.not_not.1 g) (by have:=P.cost;simp only at this;omega)⟩;generalize ({ w with s:=q.1.s }:W).fails q.2 q.1.bad=w1 at g1 hs ⊢;have MP:AB w1.s.l.length (l++if q.2≠0 then[]else List.zipWith (λs n=>(⟨s,n,[]⟩:EN)) q.1.names q.1.nodes):=by
     refine(hE.mono g1.ext.le).app ?_;split
     ·intro x hx;cases hx
     ·intro x hx;obtain⟨j,hj,rfl⟩:=zrq.1 hx;simp only[zUq]at hj;rw[zSq];exact⟨by rw[hs];exact P.g.nd (by simp) _ (z9q (by omega)),by simp⟩
    have C0c:JO w1.s (l++if q.2≠0 then[]else List.zipWith (λs n=>(⟨s,n,[]⟩:EN)) q.1.names q.1.nodes) D:=by
     refine(hd.mono hE g1.dn (z1q _)).app ?_;split
     ·intro x hx;cases hx
     ·intro x hx;obtain⟨j,hj,rfl⟩:=zrq.1 hx;simp only[zUq]at hj;rw[zSq];have:q.1.s.dn (q.1.nodes[j]'(by omega))=0:=P.nd (by simp) _ (z9q (by omega));simp only;rw[hs,this];exact zhq _
    have B:=K.run g1.i MP hD C0c hX;generalize L6 R w1 k A9 (l++if q.2≠0 then[]else List.zipWith (λs n=>(⟨s,n,[]⟩:EN)) q.1.names q.1.nodes)=b at B ⊢;obtain⟨b1,b2,b3⟩:=B;have gb:=g1.trans b1;have g2:=Ec b1.i (a:=b.2) (b:=r) b2 (gb.lt hr) k (c:=X) (by have:=gb.dn r hr;omega);have gg:=gb.trans g2;have A:=B13 hD hX hl rs _ (λa h=>ha a (z2q _ h)) g2.i (hE.mono gg.ext.le) (hd.mono hE gg.dn (z1q _)) (gg.lt hv) (gg.lt hr) ((gg.dn v hv).trans v0) ((gg.dn r hr).trans r0);refine(gg.n A).mono ?_ (z1q _);rw[zbq,zgq,zeq];simp only;omega
theorem B6H{R:Rec}{w:W}{A9 D X c:Nat}{l:List EN}(hD:1<=D)(h:AF w)(hE:AB w.s.l.length l)(hd:JO w.s l D){e:Ex}(hX:c * D<=X)(K0:KC R A9 D c (e.kd 0))(hk:∀k∈e.D5,KC R A9 D c k)(hp:∀p∈e.J7,p.pat=true)(hn:e.D5.length=e.J7.length+1):GN w (MX R w e A9 l) (3 * ((e.D5.map Ex.size).sum * X)) X:=by
 have lb:A9<2 ^ 31:=by have:=K0.lv;omega
 have s0:=TZ (e.kd 0) X;unfold MX;simp only;have A:=K0.run h hE hD hd hX;generalize L6 R w (e.kd 0) A9 l=a at A ⊢;obtain⟨a1,a2,a3⟩:=A;have V:=Qc a1.i lb;generalize a.1.fresh A9=v at V ⊢;obtain⟨v1,v2,v3⟩:=V;have g:=Ec v1.i (a:=a.2) (b:=v.2) (v1.lt a2) v2 (e.kd 0) (c:=X) (by have:=v1.at a2 a3;omega);have vl:=g.lt v2;have vd:=g.at v2 v3;generalize v.1.agree a.2 v.2 (e.kd 0)=w0 at g vl vd ⊢;have Q:=Qc g.i lb;generalize w0.fresh A9=r at Q ⊢;obtain⟨r1,r2,r3⟩:=Q;have t:=pG r1 (l:=[v.2,r.2]) (by intro x hx;simp only[zfq,zCq,or_false]at hx;rcases hx with rfl | rfl;exact r1.lt vl;exact r2);have gg:=(((a1.trans v1).trans g).trans t);have B:=B13 (R:=R) (A9:=A9) (l:=l) (v:=v.2) (r:=r.2) hD hX lb (e.J7.zip e.D5.tail) _ (λx hx=>by have:=znq hx;exact⟨hk x.2 (zHq this.2),hp x.1 this.1⟩) t.i (hE.mono gg.ext.le) (hd.mono hE gg.dn (z1q _)) (t.lt vl) r2 (yfq.1 (t.at vl vd)) (yfq.1 r3)
 refine(gg.n B).mono ?_ (z1q _);have e1:((e.J7.zip e.D5.tail).map λa=>a.2.size)=e.D5.tail.map Ex.size:=by
  have e1:((e.J7.zip e.D5.tail).map λa=>a.2.size)=((e.J7.zip e.D5.tail).map Prod.snd).map Ex.size:=by rw[zqq];rfl
  rw[e1,List.map_snd_zip (by rw[List.length_tail];omega)]
 rw[e1]
 match hk:e.D5,hn with
 |k::ks,_=>
   have e2:e.kd 0=k:=by simp[Ex.kd,hk]
   rw[e2]at s0 ⊢;simp only[List.tail_cons,zbq,zgq];rw[zeq];omega
theorem B5W{R:Rec}{A9 D X c:Nat}{l:List EN}(hD:1<=D)(hX:c * D<=X){want:Nat}(hw:want<4):∀(ks:List Ex)(w:W),(∀k∈ks,KC R A9 D c k)->AF w->AB w.s.l.length l->JO w.s l D->GC w (Ho R A9 l want ks w) (3 * ((ks.map Ex.size).sum * X))
 |[],w,_,h,_,_=>(GC.refl h).mono (zhq _)
 |k::ks,w,hk,h,hE,hd=>by have K:=hk k (z3q ..);have sk:=TZ k X;obtain⟨a1,a2,a3⟩:=K.run h hE hD hd hX;rw[Ho];have f5:=a1.i.ok.five;have g:=Ec a1.i (a:=(L6 R w k A9 l).2) (b:=want) a2 (by omega) k (c:=X) (by rw[BV a1.i.ok hw];exact a3);have ag:=a1.trans g;refine(ag.trans (B5W hD hX hw ks _ (λx hx=>hk x (z2q _ hx)) g.i (hE.mono ag.ext.le) (hd.mono hE ag.dn (z1q _)))).mono ?_;rw[zbq,zgq,zeq];omega
end Go.Su

/-
 HOW MANY ROUNDS an inference takes: the bound.
-/
namespace Go.Su
set_option linter.defProp false
def RCo(R:Rec)(e:Ex):Prop:=∃c,Cx e.size c/\xc R e c
variable {e:Ex}
def sz1(h:e.D5.length=1):e.size=1+(e.kd 0).size:=by
 rw[Ex.size_eq]
 match hk:e.D5,h with
 |[a],_=>simp[Ex.kd,hk]
def sz2(h:e.D5.length=2):e.size=(e.kd 0).size+(e.kd 1).size+1:=by
 rw[Ex.size_eq]
 match hk:e.D5,h with
 |[a,c],_=>simp[Ex.kd,hk];omega
def sz3(h:e.D5.length=3):e.size=(e.kd 0).size+(e.kd 1).size+(e.kd 2).size+1:=by
 rw[Ex.size_eq]
 match hk:e.D5,h with
 |[a,c,d],_=>simp[Ex.kd,hk];omega
def A7X(e:Ex):1<=e.size:=by have:=e.size_eq;omega
def RCo.all{R:Rec}{n:Nat}:∀(ks:List Ex),(∀k∈ks,RCo R k/\k.size<=n)->∃c,Cx n c/\∀k∈ks,xc R k c
 |[],_=>⟨1,Cx.one n,by simp⟩
 |k::ks,h=>by
   obtain⟨⟨c,h1,h2⟩,h3⟩:=h k (z3q ..);obtain⟨d,h4,h5⟩:=RCo.all ks λx hx=>h x (z2q _ hx);refine⟨max c d,(h1.mono h3).max h4,λx hx=>?_⟩;rcases zfq.1 hx with rfl | hx
   ·exact h2.mono (zwq ..)
   ·exact(h5 x hx).mono (zpq ..)
def BC(R:Rec)(e:Ex):Prop:=∃c,Cx e.size c/\∀(A9:Nat)(l:List EN)(w:W)(D X:Nat),A9+e.size<2 ^ 30->AF w->w.types=[]->AB w.s.l.length l->1<=D->DC D e->JO w.s l D->c * D<=X->GN w (T9 R w e A9 l) (3 * (e.size * X)-2 * X) X
def B7J{R:Rec}(hr:e.right=true)(hk:∀k∈e.D5,EX R k/\RCo R k):BC R e:=by
 obtain⟨k1,k2,k3⟩:=Ex.kV hr;have na:=Ex.uh hr;have nb:=Ex.A6Y hr;have kc:∀{k:Ex}{c A9 D:Nat},k∈e.D5->xc R k c->A9+e.size<2 ^ 30->DC D e->KC R A9 D c k:=λhm hc hl hA=>⟨(hk _ hm).1,hc,by have:=Ex.Cy hm;omega,hA.kid hm⟩;have kd:∀i,i<e.D5.length->∃c,Cx (e.kd i).size c/\xc R (e.kd i) c:=λi hi=>(hk _ (Ex.Cg hi)).2;have X1:∀{c D X:Nat},1<=c->1<=D->c * D<=X->D<=X/\1<=X:=λ{c D X} hc hD hX=>by have:=zzq D hc;omega
 have up:∀{c c' D X:Nat},c<=c'->c' * D<=X->c * D<=X:=λ{c c' D X} h g=>z7q (y2q D h) g;by_cases g:e.E8=1
 ·refine⟨1,Cx.one _,λA9 l w D X hl h ht hE hD hA hd hX=>?_⟩;obtain⟨x1,x2⟩:=X1 (z1q 1) hD hX;have se:=TZ e X;unfold T9;rw[C9 g];exact(B8C h (by omega) hE hd ht).mono (by omega) x1
 by_cases g:e.E8=2\/e.E8=3\/e.E8=4\/e.E8=5
 ·refine⟨1,Cx.one _,λA9 l w D X hl h ht hE hD hA hd hX=>?_⟩;have f5:=h.ok.five;unfold T9;rw[A7 (by omega),C9 g];exact⟨(GC.refl h).mono (zhq _),by simp only;omega,by simp only;rw[BV h.ok (by omega)];omega⟩
 by_cases g:e.E8=6
 ·have n2:e.D5.length=2:=by simp[g,M6]at k3;omega
  obtain⟨c0,p0,q0⟩:=kd 0 (by omega);obtain⟨c1,p1,q1⟩:=kd 1 (by omega);have se:=sz2 n2;refine⟨c0+c1,by rw[se];exact p0.add p1 (A7X _) (A7X _),λA9 l w D X hl h ht hE hD hA hd hX=>?_⟩;have K0:=kc (Ex.Cg (i:=0) (by omega)) q0 hl hA;have K1:=kc (Ex.Cg (i:=1) (by omega)) q1 hl hA;have s0:=TZ (e.kd 0) X;have s1:=TZ (e.kd 1) X;unfold T9;rw[A7 (by omega),A7 (by omega),C9 g];have A:=K0.run h hE hD hd (up (zlq ..) hX);have A':=K0.dn h hE hD hd;simp only;generalize L6 R w (e.kd 0) A9 l=a at A A' ⊢;obtain⟨a1,a2,a3⟩:=A;have B:=K1.run a1.i (hE.mono a1.ext.le) hD (hd.mono hE a1.dn (z1q _)) (up (Nat.le_add_left ..) hX);have B':=K1.dn a1.i (hE.mono a1.ext.le) hD (hd.mono hE a1.dn (z1q _));generalize L6 R a.1 (e.kd 1) A9 l=b at B B' ⊢;obtain⟨b1,b2,b3⟩:=B;refine((a1.trans b1).n (kZ b1.i (k:=7) (.inl rfl) (b1.lt a2) (λ_=>b2) (y4q (b1.at a2 A') B'))).mono ?_ ?_
  ·rw[se,zeq,zeq];omega
  ·rw[<- zeq];exact hX
 by_cases g:e.E8=7
 ·refine⟨1,Cx.one _,λA9 l w D X hl h ht hE hD hA hd hX=>?_⟩;unfold T9;rw[A7 (by omega),A7 (by omega),A7 (by omega),C9 g];have V:=Qc h (show A9<2 ^ 31 by omega);generalize w.fresh A9=v at V ⊢;obtain⟨v1,v2,v3⟩:=V;have t1:=pG v1 (l:=[v.2]) (by simpa using v2);have vd:(v.1.Aq [v.2]).s.dn v.2<=0:=v3;exact(t1.n (kZ t1.i (k:=8) (r:=0) (.inr (.inl rfl)) v2 (λh=>absurd rfl h) (by rw[BV t1.i.ok (j:=0) (by omega)];exact vd))).mono (by omega) (zhq _)
 by_cases g:e.E8=8
 ·have n2:e.D5.length=2:=by simp[g,M6]at k3;omega
  obtain⟨c0,p0,q0⟩:=kd 0 (by omega);obtain⟨c1,p1,q1⟩:=kd 1 (by omega);have se:=sz2 n2;refine⟨max c0 c1,(p0.mono (by omega)).max (p1.mono (by omega)),λA9 l w D X hl h ht hE hD hA hd hX=>?_⟩;have K0:=kc (Ex.Cg (i:=0) (by omega)) q0 hl hA;have K1:=kc (Ex.Cg (i:=1) (by omega)) q1 hl hA;unfold T9;rw[A7 (by omega),A7 (by omega),A7 (by omega),A7 (by omega),C9 g];refine(B7R hD h hE hd K0 K1 (up (zwq ..) hX) (up (zpq ..) hX)).mono ?_ (z1q _);rw[se,zeq,zeq];omega
 by_cases g:e.E8=9
 ·have n1:e.D5.length=1:=by simp[g,M6]at k3;omega
  obtain⟨c0,p0,q0⟩:=kd 0 (by omega);have se:=sz1 n1;refine⟨c0+1,by rw[se,Nat.add_comm];exact p0.succ (A7X _),λA9 l w D X hl h ht hE hD hA hd hX=>?_⟩;have K0:=kc (Ex.Cg (i:=0) (by omega)) q0 hl hA;have s0:=TZ (e.kd 0) X;have ann:=hA.a;unfold T9;rw[A7 (by omega),A7 (by omega),A7 (by omega),A7 (by omega),A7 (by omega),C9 g];have P:=A2G h (A9:=A9) na.1 (by omega);simp only;generalize w.AP e.a A9=p at P ⊢;obtain⟨r1,r2,r3⟩:=P;have hE':=(hE.mono r1.ext.le).app (AB.one (s:=e.name) r2);have Ep:JO p.1.s (l++[⟨e.name,p.2,[]⟩]) D:=(hd.mono hE r1.dn (z1q _)).app (JO.one (by omega));have B:=K0.run r1.i hE' hD Ep (up (zlq ..) hX);have B':=K0.dn r1.i hE' hD Ep;generalize L6 R p.1 (e.kd 0) A9 (l++[⟨e.name,p.2,[]⟩])=b at B B' ⊢;obtain⟨b1,b2,b3⟩:=B;refine((r1.trans b1).n (kZ b1.i (k:=9) (r:=D+c0 * D) (.inr (.inr rfl)) (b1.lt r2) (λ_=>b2) (y4q (b1.at r2 (by omega)) B'))).mono ?_ ?_
  ·rw[se,zeq];omega
  ·rw[zeq,Nat.one_mul]at hX;omega
 by_cases g:e.E8=10
 ·have n2:e.D5.length=2:=by simp[g,M6]at k3;omega
  obtain⟨c0,p0,q0⟩:=kd 0 (by omega);obtain⟨c1,p1,q1⟩:=kd 1 (by omega);have se:=sz2 n2;refine⟨max c0 c1,(p0.mono (by omega)).max (p1.mono (by omega)),λA9 l w D X hl h ht hE hD hA hd hX=>?_⟩;have K0:=kc (Ex.Cg (i:=0) (by omega)) q0 hl hA;have K1:=kc (Ex.Cg (i:=1) (by omega)) q1 hl hA;have x0:=up (zwq c0 c1) hX;unfold T9;rw[A7 (by omega),A7 (by omega),A7 (by omega),A7 (by omega),A7 (by omega),A7 (by omega),C9 g];refine(B9g hD h hE hd K0 K1 x0 (up (zpq ..) hX) (X1 p0.1 hD x0).2).mono ?_ (z1q _);rw[se,zeq,zeq];omega
 by_cases g:e.E8=11
 ·have n2:e.D5.length=2:=by simp[g,M6]at k3;omega
  obtain⟨c0,p0,q0⟩:=kd 0 (by omega);obtain⟨c1,p1,q1⟩:=kd 1 (by omega);have se:=sz2 n2;refine⟨c0 * c1,by rw[se];exact p0.mul p1,λA9 l w D X hl h ht hE hD hA hd hX=>?_⟩;have K0:=kc (Ex.Cg (i:=0) (by omega)) q0 hl hA;have K1:=kc (Ex.Cg (i:=1) (by omega)) q1 hl hA;unfold T9;rw[A7 (by omega),A7 (by omega),A7 (by omega),A7 (by omega),A7 (by omega),A7 (by omega),A7 (by omega),C9 g];refine(B9H hD h hE hd K0 K1 hA na.1 p0.1 p1.1 hX).mono ?_ (z1q _);rw[se,zeq,zeq];omega
 by_cases g:e.E8=12
 ·have n2:e.D5.length=2:=by simp[g,M6]at k3;omega
  obtain⟨c0,p0,q0⟩:=kd 0 (by omega);obtain⟨c1,p1,q1⟩:=kd 1 (by omega);have se:=sz2 n2;refine⟨max c0 c1,(p0.mono (by omega)).max (p1.mono (by omega)),λA9 l w D X hl h ht hE hD hA hd hX=>?_⟩;have K0:=kc (Ex.Cg (i:=0) (by omega)) q0 hl hA;have K1:=kc (Ex.Cg (i:=1) (by omega)) q1 hl hA;have x0:=up (zwq c0 c1) hX;unfold T9;rw[A7 (by omega),A7 (by omega),A7 (by omega),A7 (by omega),A7 (by omega),A7 (by omega),A7 (by omega),A7 (by omega),C9 g];refine(B9M hD h hE hd K0 K1 hA na.1 nb x0 (up (zpq ..) hX) (X1 p0.1 hD x0).1).mono ?_ (z1q _);rw[se,zeq,zeq];omega
 by_cases g:e.E8=13
 ·have n3:e.D5.length=3:=by simp[g,M6]at k3;omega
  obtain⟨c0,p0,q0⟩:=kd 0 (by omega);obtain⟨c1,p1,q1⟩:=kd 1 (by omega);obtain⟨c2,p2,q2⟩:=kd 2 (by omega);have se:=sz3 n3;refine⟨max c0 (max c1 c2),(p0.mono (by omega)).max ((p1.mono (by omega)).max (p2.mono (by omega))),λA9 l w D X hl h ht hE hD hA hd hX=>?_⟩;have K0:=kc (Ex.Cg (i:=0) (by omega)) q0 hl hA;have K1:=kc (Ex.Cg (i:=1) (by omega)) q1 hl hA;have K2:=kc (Ex.Cg (i:=2) (by omega)) q2 hl hA;have s0:=TZ (e.kd 0) X;unfold T9;rw[A7 (by omega),A7 (by omega),A7 (by omega),A7 (by omega),A7 (by omega),A7 (by omega),A7 (by omega),A7 (by omega),A7 (by omega),C9 g];refine(B7Q hD h hE hd K0 K1 K2 (up (zwq ..) hX) (up (z7q (zwq c1 c2) (zpq ..)) hX) (up (z7q (zpq c1 c2) (zpq ..)) hX)).mono ?_ (z1q _);rw[se,zeq,zeq,zeq];omega
 by_cases g:e.E8=14
 ·have n1:e.D5.length=e.J7.length+1:=by simp[g,M6]at k3;omega
  obtain⟨c,p,q⟩:=RCo.all (R:=R) (n:=e.size) e.D5 λk hm=>⟨(hk k hm).2,zPq (Ex.Cy hm)⟩;refine⟨c,p,λA9 l w D X hl h ht hE hD hA hd hX=>?_⟩;unfold T9;rw[A7 (by omega),A7 (by omega),A7 (by omega),A7 (by omega),A7 (by omega),A7 (by omega),A7 (by omega),A7 (by omega),A7 (by omega),A7 (by omega),C9 g];have m0:=Ex.Cg (e:=e) (i:=0) (by omega);refine(B6H hD h hE hd hX (kc m0 (q _ m0) hl hA) (λk hm=>kc hm (q k hm) hl hA) (λp hp=>?_) n1).mono ?_ (z1q _)
  ·have:=Ex.B1j hr hp;unfold F6.right at this;rw[z8q]at this;exact this.1
  ·rw[e.size_eq,zeq];omega
 by_cases g:e.E8=15
 ·have n1:e.D5.length=1:=by simp[g,M6]at k3;omega
  obtain⟨c0,p0,q0⟩:=kd 0 (by omega);have se:=sz1 n1;refine⟨c0,p0.mono (by omega),λA9 l w D X hl h ht hE hD hA hd hX=>?_⟩;have K0:=kc (Ex.Cg (i:=0) (by omega)) q0 hl hA;have s0:=TZ (e.kd 0) X;have ann:=hA.a;obtain⟨x1,x2⟩:=X1 p0.1 hD hX;unfold T9;rw[A7 (by omega),A7 (by omega),A7 (by omega),A7 (by omega),A7 (by omega),A7 (by omega),A7 (by omega),A7 (by omega),A7 (by omega),A7 (by omega),A7 (by omega),C9 g];have A:=K0.run h hE hD hd hX;simp only;generalize L6 R w (e.kd 0) A9 l=a at A ⊢;obtain⟨a1,a2,a3⟩:=A;have N:=B1n a1.i (na.2 g);generalize a.1.put e.a=n at N ⊢;obtain⟨n1,n2,n3⟩:=N;have g:=Ec n1.i (a:=a.2) (b:=n.2) (n1.lt a2) n2 (e.kd 0) (c:=2 * X) (by have:=n1.at a2 a3;omega);refine⟨((a1.trans n1).trans g).mono ?_,g.lt n2,z7q (g.at n2 n3) (by omega)⟩;rw[se,zeq];omega
 ·obtain⟨c,p,q⟩:=RCo.all (R:=R) (n:=e.size) e.D5 λk hm=>⟨(hk k hm).2,zPq (Ex.Cy hm)⟩;refine⟨c,p,λA9 l w D X hl h ht hE hD hA hd hX=>?_⟩;have f5:=h.ok.five;unfold T9;rw[A7 (by omega),A7 (by omega),A7 (by omega),A7 (by omega),A7 (by omega),A7 (by omega),A7 (by omega),A7 (by omega),A7 (by omega),A7 (by omega),A7 (by omega),A7 (by omega)];have G:=B5W (R:=R) (A9:=A9) (l:=l) hD hX (want:=if e.op=7 then 2 else 0) (by split<;>omega) e.D5 w (λk hm=>kc hm (q k hm) hl hA) h hE hd;have j:(if e.op=5\/e.op=6\/e.op=7 then 1 else 0)<4:=by split<;>omega
  refine⟨G.mono ?_,by simp only;have:=G.i.ok.five;omega,by simp only;rw[BV G.i.ok j];omega⟩;rw[e.size_eq,zeq];omega
def A2e:∀(f:Nat)(e:Ex),e.right=true->RCo (M5 f) e
 |0,e,hr=>⟨1,Cx.one _,λA9 l w D X hl h hE hD hA hd hX=>⟨AR.refl _,zlq _ _,by simp only[M5];rw[BV h.ok (by omega)];omega⟩⟩
 |f+1,e,hr=>by obtain⟨c,c1,c2⟩:=B7J (R:=M5 f) hr λk hk=>⟨Qb f k (Ex.ED hr hk),A2e f k (Ex.ED hr hk)⟩;refine⟨c,c1,λA9 l w D X hl h hE hD hA hd hX=>?_⟩;have h0:AF { w with types:=[],vars:=[],D5:=[] }:=⟨h.ok,by simp,⟨by simp,by simp⟩,trivial⟩;obtain⟨a1,a2,a3⟩:=c2 A9 l { w with types:=[],vars:=[],D5:=[] } D X hl h0 rfl hE hD hA hd hX;rw[M5];exact⟨a1.dn,a1.phi,a3⟩
def A9F(mx:Nat):(EQ mx).uv=0:=by unfold E9.uv;rw[List.countP_eq_zero];intro d hd;obtain⟨n,hn,rfl⟩:=zVq hd;obtain⟨a,b⟩:=ng (mx:=mx) (n:=n) (z4q hn);rw[b];simp[MU];omega
def B61{mx D:Nat}(hr:e.right=true)(hs:e.size<=100)(hmx:mx<=65536)(hA:DC D e)(hD:1<=D)(hD2:D<=2 ^ 12):(J3 e mx).1.s.J6+10<2 ^ 62:=by
 obtain⟨c,⟨h1,h2⟩,h3⟩:=A2e e.size e hr;have hc:c<2 ^ 41:=by
  rcases zvq c (2 ^ 41)with g | g
  ·exact g
  ·exfalso;have a:(2 ^ 41) ^ 5<=c ^ 5:=zIq g 5;have b:4 ^ (e.size+1)<=4 ^ 101:=zFq (by omega) (by omega);have:(4:Nat) ^ 101<(2 ^ 41) ^ 5:=by decide
   omega
 let w0:W:=⟨EQ mx,U1,0,[],[],[]⟩
 have I:AF w0:=⟨N_ hmx,by simp[w0],⟨by simp[w0],by simp[w0]⟩,trivial⟩;obtain⟨-,b,-⟩:=h3 1 [] w0 D (c * D) (by omega) I (λx hx=>by cases hx) hD hA (λx hx=>by cases hx) (z1q _);have e0:w0.phi=5 * mx+5:=by simp only[W.phi,w0,E9.AZ,A9F,F5];simp[EQ]
 rw[e0]at b;have hx:(M5 e.size e 1 [] w0).1.s.J6<=(M5 e.size e 1 [] w0).1.phi:=by unfold W.phi;omega
 have e1:(J3 e mx).1=(M5 e.size e 1 [] w0).1:=rfl;rw[e1];have m1:c * D<=2 ^ 41 * 2 ^ 12:=zNq (zPq hc) hD2;have m2:e.size * (c * D)<=100 * (2 ^ 41 * 2 ^ 12):=zNq hs m1;omega
end Go.Su

/-
 TWO RUNS SIDE BY SIDE: what is asked of the stores' operations; steps.
-/
namespace Go.Su
set_option linter.defProp false
inductive L2{α β : Type}(R : α -> β->Prop):List α->List β->Prop
 |nil:L2 R [] []
 |cons {a : α} {b : β} {l:List α} {k:List β}:R a b->L2 R l k->L2 R (a::l) (b::k)
namespace L2
variable {α β : Type}{R Q : α -> β->Prop}{l:List α}{k:List β}
def mono(h:∀a b,R a b->Q a b)(g:L2 R l k):L2 Q l k:=by
 induction g with
 |nil=>exact .nil
 |cons a _ ih=>exact .cons (h _ _ a) ih
def len(g:L2 R l k):k.length=l.length:=by
 induction g with
 |nil=>rfl
 |cons a _ ih=>simp[ih]
def app{l2:List α}{k2:List β}(g:L2 R l k)(h:L2 R l2 k2):L2 R (l++l2) (k++k2):=by
 induction g with
 |nil=>exact h
 |cons a _ ih=>exact .cons a ih
def getD{a : α}{b : β}(g:L2 R l k)(h:R a b)(i:Nat):R (l.getD i a) (k.getD i b):=by
 induction g generalizing i with
 |nil=>exact h
 |cons x _ ih=>cases i with
   |zero=>exact x
   |succ i=>simpa using ih i
def one{a : α}{b : β}(h:R a b):L2 R [a] [b]:=.cons h .nil
def tail(g:L2 R l k):L2 R l.tail k.tail:=by cases g with | nil=>exact .nil | cons _ h=>exact h
def headD{a : α}{b : β}(g:L2 R l k)(h:R a b):R (l.headD a) (k.headD b):=by cases g with | nil=>exact h | cons x _=>exact x
end L2
structure Sim where
 Wd:Type
 le:Wd->Wd->Prop
 rf:∀a,le a a
 tr:∀{a b c:Wd},le a b->le b c->le a c
 T:Wd->E9->E9->Prop
 N:Wd->Nat->Nat->Prop
 nm:∀{a b:Wd}{n n':Nat},le a b->N a n n'->N b n n'
 lv:Nat->Nat->Prop
 lvs:∀{a b:Nat},lv a b->lv (a+1) (b+1)
 Q8:Nat
 leaf:∀(o:Wd)(j:Nat),j<5->N o j j
 tick:∀{o:Wd}{S S':E9},T o S S'->T o S.tick S'.tick
 var:∀{o:Wd}{S S':E9}{A9 lev':Nat},S.Ok->S'.Ok->T o S S'->lv A9 lev'->A9<2 ^ 31->lev'<2 ^ 31->((S.var A9).2.2≠7->(S'.var lev').2.2=(S.var A9).2.2/\∃o',le o o'/\T o' (S.var A9).1 (S'.var lev').1/\N o' (S.var A9).2.1 (S'.var lev').2.1)/\((S.var A9).2.2=7->(S'.var lev').2.2≠0\/Q8<(S'.var lev').1.cnt)
 make:∀{o:Wd}{S S':E9}{k a b a' b':Nat},S.Ok->S'.Ok->T o S S'->(k=7\/k=8\/k=9)->N o a a'->(k≠8->N o b b')->((S.make k a b).2.2≠7->(S'.make k a' b').2.2=(S.make k a b).2.2/\∃o',le o o'/\T o' (S.make k a b).1 (S'.make k a' b').1/\N o' (S.make k a b).2.1 (S'.make k a' b').2.1)/\((S.make k a b).2.2=7->(S'.make k a' b').2.2≠0\/Q8<(S'.make k a' b').1.cnt)
 put:∀{o:Wd}{S S':E9}{t:Ty},S.Ok->S'.Ok->T o S S'->t.rc->((S.put t).2.2≠7->(S'.put t).2.2=(S.put t).2.2/\∃o',le o o'/\T o' (S.put t).1 (S'.put t).1/\N o' (S.put t).2.1 (S'.put t).2.1)/\((S.put t).2.2=7->(S'.put t).2.2≠0\/Q8<(S'.put t).1.cnt)
 agree:∀{o:Wd}{S S':E9}{a b a' b':Nat},S.Ok->S'.Ok->T o S S'->N o a a'->N o b b'->((S.agree a b).2.2.2≠7->(S'.agree a' b').2=(S.agree a b).2/\∃o',le o o'/\T o' (S.agree a b).1 (S'.agree a' b').1)/\((S.agree a b).2.2.2=7->(S'.agree a' b').2.2.2≠0\/Q8<(S'.agree a' b').1.cnt)
 copy:∀{o:Wd}{S S':E9}{n n':Nat}{f f' t t':List Nat},S.Ok->S'.Ok->T o S S'->N o n n'->L2 (N o) f f'->L2 (N o) t t'->f.length<=t.length->((S.copy n f t).2.2≠7->(S'.copy n' f' t').2.2=(S.copy n f t).2.2/\∃o',le o o'/\T o' (S.copy n f t).1 (S'.copy n' f' t').1/\N o' (S.copy n f t).2.1 (S'.copy n' f' t').2.1)/\((S.copy n f t).2.2=7->(S'.copy n' f' t').2.2≠0\/Q8<(S'.copy n' f' t').1.cnt)
 vars:∀{o:Wd}{S S':E9}{n n' A9 lev':Nat},S.Ok->S'.Ok->T o S S'->N o n n'->lv A9 lev'->L2 (N o) ((S.vars n).filter λv=>decide (A9<S.X4 v)) ((S'.vars n').filter λv=>decide (lev'<S'.X4 v))
 E8:∀{o:Wd}{S S':E9}{n n':Nat},S.Ok->S'.Ok->T o S S'->N o n n'->S'.F9 (S'.root n')=S.F9 (S.root n)
 D5:∀{o:Wd}{S S':E9}{n n':Nat},S.Ok->S'.Ok->T o S S'->N o n n'->L2 (N o) (S.I6 (S.root n)) (S'.I6 (S'.root n'))
 lt:∀{o:Wd}{S S':E9}{n n':Nat},S.Ok->S'.Ok->T o S S'->N o n n'->n<S.l.length/\n'<S'.l.length
section
variable (M:Sim)
mutual
def DR(o:M.Wd):DD->DD->Prop
 |.mk n ts vs ks,.mk n' ts' vs' ks'=>M.N o n n'/\L2 (M.N o) ts ts'/\L2 (M.N o) vs vs'/\DRL o ks ks'
def DRL(o:M.Wd):List DD->List DD->Prop
 |[],[]=>True
 |k::ks,k'::ks'=>DR o k k'/\DRL o ks ks'
 |_,_=>False
end
variable {M}
structure Al(M:Sim)(o:M.Wd)(w w':W):Prop where
 t:M.T o w.s w'.s
 e:w'.err=w.err
 b:w'.bad=w.bad
 ty:L2 (M.N o) w.types w'.types
 vs:L2 (M.N o) w.vars w'.vars
 ks:DRL M o w.D5 w'.D5
structure SR(M:Sim)(o:M.Wd)(w w':W):Prop where
 i:AF w
 i':AF w'
 r:(w.err≠7/\Al M o w w')\/(w.err=7/\(w'.err≠0\/M.Q8<w'.s.cnt))
end
end Go.Su

/-
 TWO RUNS SIDE BY SIDE: names, what is bound, patterns.
-/
namespace Go.Su
set_option linter.defProp false
namespace L2
variable {α β : Type}{R : α -> β->Prop}{l:List α}{k:List β}
def find{p : α->Bool}{q : β->Bool}(g:L2 R l k)(h:∀a b,R a b->p a=q b):(l.find? p=none/\k.find? q=none)\/∃a b,l.find? p=some a/\k.find? q=some b/\R a b:=by
 induction g with
 |nil=>exact .inl ⟨rfl,rfl⟩
 | @cons a b l k x _ ih=>
   rw[zXq,zXq,<- h a b x];cases p a with
   |true=>exact .inr ⟨a,b,rfl,rfl,x⟩
   |false=>exact ih
end L2
section
variable {M:Sim}{o o1:M.Wd}{w w' x x':W}
def ER(M:Sim)(o:M.Wd)(w w':W)(l l':List EN):Prop:=AB w.s.l.length l/\AB w'.s.l.length l'/\(w.err≠7->L2 (λa b=>a.name=b.name/\M.N o a.node b.node/\L2 (M.N o) a.vars b.vars) l l')
end
section
variable {M:Sim}
end
end Go.Su

/-
 TWO RUNS SIDE BY SIDE: patterns.
-/
namespace Go.Su
section
variable {M:Sim}
end
end Go.Su

/-
 TWO RUNS SIDE BY SIDE: expressions.
-/
namespace Go.Su
section
variable {M:Sim}{R:Rec}{o:M.Wd}{w w':W}{A9 lev':Nat}{l l':List EN}(L:M.lv A9 lev')(H:SR M o w w')(hE:ER M o w w' l l')
include L H hE
end
end Go.Su

/-
 TWO RUNS SIDE BY SIDE: matches, operations; whole runs.
-/
namespace Go.Su
section
variable {M:Sim}{R:Rec}
end
end Go.Su

/-
 TWO LIMITS: the same store with another limit.
-/
namespace Go.Su
section
variable (S:E9)(m:Nat)
end
section
variable {m1 m2:Nat}(hm:m1<=m2)
include hm
end
end Go.Su

/-
 TWO LIMITS: agreement, types that are put.
-/
namespace Go.Su
section
variable {m1 m2:Nat}(hm:m1<=m2)(kM:m2<=65536)
include hm kM
end
end Go.Su

/-
 TWO LIMITS: copies.
-/
namespace Go.Su
end Go.Su

/-
 TWO LIMITS: runs.
-/
namespace Go.Su
end Go.Su

/-
 TWO LIMITS: what is read; results.
-/
namespace Go.Su
section
variable {m1 m2:Nat}(hm:m1<=m2)
include hm
end
end Go.Su

/-
 TWO LIMITS: whole runs.
-/
namespace Go.Su
section
variable {m1 m2:Nat}(hm:m1<=m2){w:W}
theorem A1r(h:w.err≠0):∀d:DD,AY d w=w
 |.mk n ts vs ks=>by rw[AY,C9 h]
theorem vC(h:w.err≠0):∀ts:List Nat,Az ts w=(w,[])
 |[]=>by rw[Az]
 |k::ks=>by rw[Az,C9 h]
theorem u_(h:w.err≠0):∀ts:List DD,C_ ts w=(w,[])
 |[]=>by rw[C_]
 |k::ks=>by rw[C_,C9 h]
include hm
end
end Go.Su

/-
 WHAT A RUN HAS MADE: at least one, at most its limit.
-/
namespace Go.Su
end Go.Su

/-
 WHAT A RUN GIVES is not too great.
-/
namespace Go.Su
set_option linter.defProp false
theorem ui(N:List Int):∀ts:List Ty,ZM N ts=ts.map (Hm N)
 |[]=>by rw[ZM];rfl
 |t::ts=>by rw[ZM,ui N ts];rfl
theorem A3D(N:List Int):∀ts:List K8,eY N ts=ts.map (VD N)
 |[]=>by rw[eY];rfl
 |t::ts=>by rw[eY,A3D N ts];rfl
variable (N:List Int)
def A3E(t:Ty):(Hm N t).size=t.size:=by
 induction t using Ty.ind with
 |h t ih=>
   cases t with
   |mk k n ts=>
     rw[Hm];split
     ·rw[Ty.size_eq,Ty.size_eq];rfl
     ·split
      ·rfl
      ·rw[ui,Ty.size_eq,Ty.size_eq,Ty.S9,Ty.S9,zqq];congr 2;exact ziq λk hk=>ih k hk
def B6N(d:K8):Vo d->Vo (VD N d):=by
 induction d using K8.ind with
 |h d ih=>
   intro h;obtain⟨a1,a2,a3,a4,a5⟩:(∀t∈d.types,t.size<=65536)/\d.types.length<=70000/\d.vars.length<2 ^ 29/\d.D5.length<=70000/\∀k∈d.D5,Vo k:=by cases h with | mk _ a1 a2 a3 a4 a5=>exact⟨a1,a2,a3,a4,a5⟩
   cases d with
   |mk ts vs ks=>
     simp only[K8.A0d,K8.A96,K8.S9]at a1 a2 a3 a4 a5 ih;rw[VD,A3D];refine .mk _ ?_ (by simpa using a2) (by simpa using a3) (by simpa using a4) ?_
     ·intro t ht;simp only[K8.A0d,zmq]at ht;obtain⟨u,hu,rfl⟩:=ht;rw[A3E];exact a1 u hu
     ·intro t ht;simp only[K8.S9,zmq]at ht;obtain⟨u,hu,rfl⟩:=ht;exact ih u hu (a5 u hu)
def yT:∀{d:DD}{w:W},(BP d (AY d w)).1.err=0->(AY d w).err=0
 |.mk n ts vs ks,w,g=>by
   by_cases n0:(AY (.mk n ts vs ks) w).err=0
   ·exact n0
   ·exfalso;rw[BP,vC n0]at g;simp only at g;rw[u_ n0]at g;exact n0 g
def A7k{e:Ex}(hr:e.right=true)(hs:e.size<2 ^ 29){m:Nat}(hm:m<=65536):(U6 e m).ty.size<=65536/\Vo (U6 e m).dv:=by
 have I:AF (⟨EQ m,U1,0,[],[],[]⟩:W):=⟨N_ hm,by simp,⟨by simp,by simp⟩,trivial⟩;obtain⟨k1,k2,k3,k4⟩:=Qb e.size e hr 1 [] _ (by omega) I (λx hx=>by cases hx);have x1:M5 e.size e 1 [] ⟨EQ m,U1,0,[],[],[]⟩=J3 e m:=rfl;rw[x1]at k1 k2 k3 k4;unfold U6;simp only
 split
 ·have z:Vo zD:=.mk _ (by intro t ht;cases ht) (zhq _) (by show 0<2 ^ 29;omega) (zhq _) (by intro t ht;cases ht);exact⟨by show(Ty.mk 0 0 []).size<=_;rw[Ty.size_eq];simp,z⟩
 ·rename_i g;have g:(BP (J3 e m).2.2 (AY (J3 e m).2.2 (J3 e m).1)).1.err=0:=Classical.not_not.1 g;simp only;have n0:=yT g;obtain⟨n1,n2⟩:=eX (J3 e m).2.2 (J3 e m).1 k1;have cm:=n1.ok.cm;have mm:=n1.ok.mm;have c1:=(n2 n0).2;obtain⟨f1,-,f3⟩:=zy (J3 e m).2.2 (AY (J3 e m).2.2 (J3 e m).1) (J3 e m).1.s.l.length n1.ok k4 (by omega);refine⟨?_,B6N _ _ (f3 g).2⟩;rw[A3E];have h0:=(n2 n0).1;have hn:=n0;obtain⟨a,ts,vs,ks,hd,qM⟩:∃a ts vs ks,(J3 e m).2.2=.mk a ts vs ks/\a=(J3 e m).2.1:=by
   unfold J3;have:e.size≠0:=by have:=e.size_eq;omega
   obtain⟨f,hf⟩:=zOq this;rw[hf,M5];exact⟨_,_,_,_,rfl,rfl⟩
  rw[hd,AY,A7 (λh=>h h0)]at hn;have e':(({ (J3 e m).1 with s:=((J3 e m).1.s.read a).1 }:W).fails ((J3 e m).1.s.read a).2.2 U1)=(J3 e m).1.rd a:=rfl;rw[e']at hn;obtain⟨o1,-,-,o4⟩:=oI k1 a;have h1:=((Xv ks _ o1).2 hn).1;rw[<- qM];exact((lC k1 a).2.2.2.2 (o4 h1).2.1).2.1
end Go.Su

/-
 A STORE WITHIN ANOTHER: the nodes behind the first five are moved, levels are raised.
-/
namespace Go.Su
mutual
def NT.mp(f:Nat->Nat):NT->NT
 |.mk r k ts=>.mk (f r) k (NT.Xt f ts)
def NT.Xt(f:Nat->Nat):List NT->List NT
 |[]=>[]
 |t::ts=>t.mp f::NT.Xt f ts
end
theorem B2X(f:Nat->Nat):∀ts:List NT,NT.Xt f ts=ts.map (NT.mp f)
 |[]=>by rw[NT.Xt];rfl
 |t::ts=>by rw[NT.Xt,B2X f ts];rfl
section
variable {f:Nat->Nat}(hf:∀a b,f a=f b->a=b)
include hf
variable {l:List Nat}
theorem wL{x:Nat}:f x∈l.map f↔x∈l:=by rw[zmq];exact⟨λ⟨y,hy,e⟩=>hf _ _ e ▸ hy,λh=>⟨x,h,rfl⟩⟩
mutual
theorem A9B:∀(t:NT)(o:List Nat),(t.mp f).look (o.map f)=(t.look o).map f
 |.mk r k ts,o=>by
   rw[NT.mp,NT.look,NT.look];by_cases h:r∈o
   ·rw[C9 h,C9 ((wL hf).2 h)]
   ·rw[A7 h,A7 (λg=>h ((wL hf).1 g)),<- A6F ts (o++[r]),zjq];rfl
theorem A6F:∀(ts:List NT)(o:List Nat),NT.Kw (NT.Xt f ts) (o.map f)=(NT.Kw ts o).map f
 |[],o=>by rw[NT.Xt,NT.Kw,NT.Kw]
 |t::ts,o=>by rw[NT.Xt,NT.Kw,NT.Kw,A9B t o,A6F ts _]
end
mutual
theorem A6s(K:List Nat):∀t:NT,(t.mp f).has (K.map f)=t.has K
 |.mk r k ts=>by rw[NT.mp,NT.has,NT.has,A9w K ts];congr 1;exact decide_eq_decide.2 (wL hf)
theorem A9w(K:List Nat):∀ts:List NT,NT.Uo (K.map f) (NT.Xt f ts)=NT.Uo K ts
 |[]=>by rw[NT.Xt,NT.Uo,NT.Uo]
 |t::ts=>by rw[NT.Xt,NT.Uo,NT.Uo,A6s K t,A9w K ts]
end
theorem A5X(r:Nat):∀K:List (Nat×Nat),FC (K.map λe=>(f e.1,f e.2)) (f r)=(FC K r).map f
 |[]=>rfl
 |e::K=>by
   unfold FC;rw[zbq,zXq,zXq];by_cases h:e.1=r
   ·have h1:(e.1==r)=true:=by simp[h]
    have h2:(f e.1==f r)=true:=by simp[h]
    simp only[h1,h2,ztq]
   ·have h1:(e.1==r)=false:=by simp[h]
    have h2:(f e.1==f r)=false:=by rw[beq_eq_false_iff_ne];exact λg=>h (hf _ _ g)
    simp only[h1,h2];exact A5X r K
end
mutual
theorem A7z(f:Nat->Nat)(m:Nat):∀t:NT,(t.mp f).BN m=t.BN m
 |.mk r k ts=>by rw[NT.mp,NT.BN,NT.BN,A7y f m ts]
theorem A7y(f:Nat->Nat)(m:Nat):∀(ts:List NT)(k:Nat),NT.HY m (NT.Xt f ts) k=NT.HY m ts k
 |[],k=>by rw[NT.Xt]
 |t::ts,k=>by rw[NT.Xt,NT.HY,NT.HY,A7z f m t,A7y f m ts]
end
structure Mb where
 bs:List Nd
 d:Nat
 dl:Nat
 dc:Nat
 dr:Nat
 ln:bs.length=5+d
 lf:∀j,j<5->bs[j]?=some ⟨j+1,0,none,[]⟩
namespace Mb
variable (E:Mb)
def rh(n:Nat):Nat:=if n<5 then n else n+E.d
def lv(a:Nat):Nat:=if a=0 then 0 else a+E.dl
def sh(x:Nd):Nd:=⟨x.E8,E.lv x.level,x.link.map E.rh,x.D5.map E.rh⟩
def Y1(S:E9):E9:=⟨E.bs++(S.l.drop 5).map E.sh,S.mx+E.dc,S.cnt+E.dc,S.J6+E.dr⟩
theorem bN(a b:Nat)(h:E.rh a=E.rh b):a=b:=by unfold rh at h;split at h<;>split at h<;>omega
variable {n:Nat}
theorem VI(h:n<5):E.rh n=n:=by unfold rh;rw[C9 h]
theorem B8R:E.rh n=4↔n=4:=⟨λh=>E.bN _ _ (h.trans (E.VI (n:=4) (by omega)).symm),λh=>by rw[h];exact E.VI (by omega)⟩
theorem B1s{a b:Nat}:E.rh a=E.rh b↔a=b:=⟨E.bN a b,λh=>by rw[h]⟩
theorem wR(h:5<=n):E.rh n=n+E.d:=by unfold rh;rw[A7 (by omega)]
theorem lv0:E.lv 0=0:=rfl
theorem B8x(a b:Nat):min (E.lv a) (E.lv b)=E.lv (min a b):=by unfold lv;split<;>split<;>split<;>omega
theorem ug{x:Nat}{l:List Nat}:E.rh x∈l.map E.rh↔x∈l:=wL E.bN
variable {E}
theorem lo(S:E9){k:Nat}(h:k<5+E.d):(E.Y1 S).l[k]?=E.bs[k]?:=by simp only[Y1];rw[List.getElem?_append_left (by rw[E.ln];exact h)]
theorem hi(S:E9)(n:Nat):(E.Y1 S).l[5+E.d+n]?=(S.l[5+n]?).map E.sh:=by simp only[Y1];rw[List.getElem?_append_right (by rw[E.ln];omega),E.ln,zQq,List.getElem?_drop];congr 2;omega
variable {S:E9}
theorem ext{T:E9}(h1:∀k,k<5+E.d->T.l[k]?=E.bs[k]?)(h2:∀n,T.l[5+E.d+n]?=(S.l[5+n]?).map E.sh)(h3:T.mx=S.mx+E.dc)(h4:T.cnt=S.cnt+E.dc)(h5:T.J6=S.J6+E.dr):T=E.Y1 S:=by
 have:T.l=(E.Y1 S).l:=by
  refine List.ext_getElem? λk=>?_;rcases zvq k (5+E.d)with g | g
  ·rw[h1 k g,lo S g]
  ·obtain⟨n,rfl⟩:=zYq g;rw[h2,hi]
 cases T;simp only at this h3 h4 h5;subst h3;subst h4;subst h5;rw[this];rfl
theorem len(h:5<=S.l.length):(E.Y1 S).l.length=S.l.length+E.d:=by simp only[Y1,zEq,zsq,List.length_drop,E.ln];omega
theorem A1z(h:5<=S.l.length):(E.Y1 S).l.length=E.rh S.l.length:=by rw[len h,wR E h]
theorem B5Z(h:5<=S.l.length)(hn:n<S.l.length):E.rh n<(E.Y1 S).l.length:=by rw[len h];unfold rh;split<;>omega
def B5(S:E9):Prop:=∀j,j<5->S.l[j]?=some ⟨j+1,0,none,[]⟩
theorem B5.five(b:B5 S):5<=S.l.length:=(zuq.1 (b 4 (by omega))).1
theorem get(b:B5 S)(n:Nat):(E.Y1 S).l[E.rh n]?=(S.l[n]?).map E.sh:=by
 rcases zvq n 5 with g | g
 ·rw[VI E g,lo S (by omega),b n g,E.lf n g];rfl
 ·obtain⟨m,rfl⟩:=zYq g;rw[wR E g,show 5+m+E.d=5+E.d+m by omega,hi]
theorem rootOf(b:B5 S){r:Nat}(h:X6 S n r):X6 (E.Y1 S) (E.rh n) (E.rh r):=by
 induction h with
 |here h1 h2=>exact .here (d:=E.sh _) (by rw[get b,h1];rfl) (by simp[sh,h2])
 |step h1 h2 _ ih=>exact .step (d:=E.sh _) (by rw[get b,h1];rfl) (by simp only[sh,h2,ztq]) ih
theorem C0F(b:B5 S){t:NT}(h:U2 S n t):U2 (E.Y1 S) (E.rh n) (t.mp E.rh):=by
 induction h with
 |mk h1 h2 h3 h4 ih=>rw[NT.mp,B2X];exact .mk (d:=E.sh _) (rootOf b h1) (by rw[get b,h2];rfl) (by simpa[sh]using h3) λi a c=>by have a':=a;have c':=c;simp only[sh,zsq]at a' c';simp only[sh,zBq];exact ih i a' c'
theorem base(ok:S.Ok):B5 S:=ok.base
section
variable {S:E9}(ok:S.Ok)
include ok
theorem I8(hn:n<S.l.length):(E.Y1 S).I8 (E.rh n)=(S.I8 n).mp E.rh:=(C0F (base ok) (ok.I8 hn)).eq
theorem root(hn:n<S.l.length):(E.Y1 S).root (E.rh n)=E.rh (S.root n):=by unfold E9.root;rw[I8 ok hn];cases S.I8 n;rw[NT.mp];rfl
theorem roots(hn:n<S.l.length):(E.Y1 S).roots (E.rh n)=(S.roots n).map E.rh:=by unfold E9.roots;rw[I8 ok hn];exact A9B E.bN _ []
theorem F9(n:Nat):(E.Y1 S).F9 (E.rh n)=S.F9 n:=by unfold E9.F9;rw[get (base ok)];cases S.l[n]?<;>rfl
theorem X4(n:Nat):(E.Y1 S).X4 (E.rh n)=E.lv (S.X4 n):=by unfold E9.X4;rw[get (base ok)];cases S.l[n]?<;>rfl
theorem I6(n:Nat):(E.Y1 S).I6 (E.rh n)=(S.I6 n).map E.rh:=by unfold E9.I6;rw[get (base ok)];cases S.l[n]?<;>rfl
theorem vars(hn:n<S.l.length):(E.Y1 S).vars (E.rh n)=(S.vars n).map E.rh:=by unfold E9.vars;rw[roots ok hn,yhq];congr 1;exact zZq λr _=>by simp only[Function.comp];rw[F9 ok]
theorem B9R{v:Nat}(hn:n<S.l.length)(hv:v∈S.vars n):5<=v:=by
 rcases zvq v 5 with g | g
 ·have:=(y3q.1 hv).2;rw[beq_iff_eq,CB (ok.base v g)]at this;simp only at this;omega
 ·exact g
theorem lower(hn:n<S.l.length)(A9:Nat):(E.Y1 S).lower (E.rh n) (E.lv A9)=E.Y1 (S.lower n A9):=by
 refine ext (λk hk=>?_) (λm=>?_) rfl rfl (by simp only[E9.lower,E9.tick,Y1];omega)
 ·simp only[E9.lower]
  rw[Ky,lo S hk,vars ok hn];have:k∉(S.vars n).map E.rh:=λh=>by obtain⟨v,hv,e⟩:=zmq.1 h;have g:=B9R ok hn hv;rw[wR E g]at e;omega
  simp only[A7 this];cases E.bs[k]?<;>rfl
 ·simp only[E9.lower]
  rw[Ky,Ky,hi,vars ok hn];have e:5+E.d+m=E.rh (5+m):=by rw[wR E (by omega)];omega
  rw[e];cases S.l[5+m]? with
  |none=>rfl
  |some x=>
    simp only[ztq,ug]
    split
    ·simp only[sh,B8x]
    ·rfl
theorem link{v:Nat}(hv:v<S.l.length)(hn:n<S.l.length):(E.Y1 S).link (E.rh v) (E.rh n)=(E.Y1 (S.link v n).1,(S.link v n).2):=by
 unfold E9.link;rw[root ok hv,root ok hn,roots ok hn,F9 ok,X4 ok];simp only[B1s,ug];have tick:(E.Y1 S).tick=E.Y1 S.tick:=by simp only[E9.tick,Y1];congr 1;omega
 split
 ·rfl
 ·rename_i h;split
  ·rw[tick]
  ·rename_i hw;have h6:S.F9 (S.root v)=6:=Classical.not_not.1 λg=>h (.inl g);have uj:=TQ ok hv hn h6 hw;have h5:5<=S.root v:=by
    rcases zvq (S.root v) 5 with g | g
    ·rw[CB (ok.base _ g)]at h6;simp only at h6;omega
    ·exact g
   have e1:(E.Y1 S).tick.Ay (E.rh (S.root v)) (E.rh (S.root n))=E.Y1 (S.tick.Ay (S.root v) (S.root n)):=by
    rw[tick];refine ext (λk hk=>?_) (λm=>?_) rfl rfl rfl
    ·rw[Er,lo _ hk,wR E h5];cases E.bs[k]? with
     |none=>rfl
     |some x=>rw[ztq,A7 (by omega)]
    ·rw[Er,Er,hi];have e:5+E.d+m=E.rh (5+m):=by rw[wR E (by omega)];omega
     rw[e];cases S.tick.l[5+m]? with
     |none=>rfl
     |some x=>
       simp only[ztq,B1s]
       split<;>rfl
   rw[e1,lower uj (by simp only[E9.Ay,List.length_modify];exact ok.Fu hn)]
end
theorem tick(S:E9):(E.Y1 S).tick=E.Y1 S.tick:=by simp only[E9.tick,Y1];congr 1;omega
theorem add(h:5<=S.l.length)(x:Nd):(E.Y1 S).add (E.sh x)=E.Y1 (S.add x):=by simp only[E9.add,Y1];rw[List.drop_append_of_le_length h,zjq,zJq];congr 1;omega
theorem var(ok:S.Ok){A9:Nat}:(E.Y1 S).var (E.lv A9)=(E.Y1 (S.var A9).1,E.rh (S.var A9).2.1,(S.var A9).2.2):=by
 have f5:=ok.five;have e:(E.Y1 S).cnt=(E.Y1 S).mx↔S.cnt=S.mx:=by simp only[Y1];omega
 unfold E9.var;by_cases g:S.cnt=S.mx
 ·rw[C9 g,C9 (e.2 g)];rfl
 ·rw[A7 g,A7 (λh=>g (e.1 h))];have:=add (E:=E) f5 ⟨6,A9,none,[]⟩;simp only[A1z f5,<- this]
  try rfl
theorem make(ok:S.Ok){k a b:Nat}:(E.Y1 S).make k (E.rh a) (E.rh b)=(E.Y1 (S.make k a b).1,E.rh (S.make k a b).2.1,(S.make k a b).2.2):=by
 have f5:=ok.five;have e:(E.Y1 S).cnt=(E.Y1 S).mx↔S.cnt=S.mx:=by simp only[Y1];omega
 unfold E9.make;by_cases g:S.cnt=S.mx
 ·rw[C9 g,C9 (e.2 g)];rfl
 ·rw[A7 g,A7 (λh=>g (e.1 h))];have:=add (E:=E) f5 ⟨k,0,none,if k=8 then[a]else[a,b]⟩;simp only[A1z f5,<- this];simp only[sh,lv0,zRq]
  congr 3;split<;>rfl
theorem fresh{A9:Nat}(hl:A9<2 ^ 31):∀(k:Nat){S:E9},S.Ok->E9.fresh (E.lv A9) k (E.Y1 S)=(E.Y1 (E9.fresh A9 k S).1,(E9.fresh A9 k S).2.1.map E.rh,(E9.fresh A9 k S).2.2)
 |0,S,ok=>rfl
 |k+1,S,ok=>by
   rw[E9.fresh,E9.fresh,var ok];simp only
   split
   ·rw[fresh hl k (VN ok hl).1];rfl
   ·rfl
end Mb
end Go.Su

/-
 A STORE WITHIN ANOTHER: agreement, copies, types that are put.
-/
namespace Go.Su
set_option linter.defProp false
namespace Mb
variable {E:Mb}
theorem B5I(l:List Nat)(i:Nat):(l.map E.rh).getD i 0=E.rh (l.getD i 0):=by
 rw[z5q,z5q,zQq];cases l[i]? with
 |none=>exact(VI E (n:=0) (by omega)).symm
 |some x=>rfl
variable {S:E9}
theorem become(ok:S.Ok){v w:Nat}(hv:v<S.l.length)(hw:w<S.l.length)(rw_:S.root w=w)(yI:w≠4):(E.Y1 S).become (E.rh v) (E.rh w)=(E.Y1 (S.become v w).1,(S.become v w).2.1.map E.rh,(S.become v w).2.2):=by
 have m4:4∉(S.roots w).map E.rh↔4∉S.roots w:=by have:=E.ug (x:=4) (l:=S.roots w);rw[VI E (by omega)]at this;exact not_congr this
 unfold E9.become;rw[F9 ok,roots ok hw,link ok hv hw,tick,link ok.tick hv hw,X4 ok,I6 ok,zsq,tick];simp only[m4,ug]
 split
 ·rfl
 ·rename_i k6;split
  ·rfl
  ·rename_i Q9;have Q9:4∈S.roots w:=Classical.not_not.1 Q9;split
   ·rfl
   ·have TS:=ok.tick.tick;obtain⟨f1,f2,f3,f4,f5,f6⟩:=LJ (ok.A9 hv) (S.I6 w).length _ TS;rw[fresh (E:=E) (ok.A9 hv) (S.I6 w).length TS];simp only;generalize E9.fresh (S.X4 v) (S.I6 w).length S.tick.tick=q at f1 f2 f3 f4 f5 f6 ⊢;have kn:=ok.YM hw;have kw:=ok.knd hw;by_cases e0:q.2.2=0
    ·have nq:¬q.2.2≠0:=λg=>g e0;simp only[A7 nq];have Yh:S.F9 w=7\/S.F9 w=8\/S.F9 w=9:=by
      by_cases A4Z:S.F9 w<=5
      ·exfalso;have h0:(S.I6 w).length=0:=by rw[kn];unfold Ml;rw[A7 (by omega),A7 (by omega)]
       have hu:=ok.I8 hw;obtain⟨d,d1,-,d3,d4,-⟩:=hu.nd;have hr:(S.I8 w).r=w:=rw_;rw[hr]at d1;have hk:(S.I8 w).D5=[]:=by
        have:d.D5.length=0:=by rw[<- Cu d1];exact h0
        exact zaq.1 (by omega)
       have h4:=(ok.CS hw).1 Q9;rcases NT.BZ.1 h4 with e | ⟨u,hu,-⟩
       ·exact absurd (show w=4 by rw[<- hr];exact e.symm) yI
       ·rw[hk]at hu;cases hu
      ·omega
     have ql:=f6 e0;rw[kn]at ql;have n0:q.2.1.getD 0 0<q.1.l.length:=by
      have:0<q.2.1.length:=by rw[ql];unfold Ml;split<;>(try split)<;>omega
      rw[z5q,z4q this];exact f5 _ (z9q this)
     have n1:S.F9 w≠8->q.2.1.getD 1 0<q.1.l.length:=by
      intro h8;have:1<q.2.1.length:=by rw[ql];unfold Ml;rw[A7 h8,C9 (by omega)];omega
      rw[z5q,z4q this];exact f5 _ (z9q this)
     obtain⟨p1,p2,p3,p4,p5,p6⟩:=MW f1 Yh n0 n1;rw[B5I,B5I,make f1];simp only;generalize q.1.make (S.F9 w) (q.2.1.getD 0 0) (q.2.1.getD 1 0)=z at p1 p2 p3 p4 p5 p6 ⊢;split
     ·rfl
     ·rw[link p1 (z0q hv (z7q f2.le p2.le)) p4];rfl
    ·have nq:q.2.2≠0:=e0;simp only[C9 nq]
     try rfl
def pr(E:Mb)(p:Nat×Nat):Nat×Nat:=(E.rh p.1,E.rh p.2)
theorem zip(a b:List Nat):(a.map E.rh).zip (b.map E.rh)=(a.zip b).map E.pr:=by rw[List.zip_map];rfl
theorem P7:∀(f:Nat)(S:E9)(l:List (Nat×Nat)),S.Ok->(∀p∈l,p.1<S.l.length/\p.2<S.l.length)->E9.P7 f (E.Y1 S) (l.map E.pr)=(E9.P7 f S l).map λq=>(E.Y1 q.1,q.2)
 |0,S,l,ok,hl=>by rw[E9.P7,E9.P7];rfl
 |f+1,S,[],ok,hl=>by rw[zAq,E9.P7,E9.P7];rfl
 |f+1,S,p::rest,ok,hl=>by
   obtain⟨p1,p2⟩:=hl p (z3q ..);have Aw:∀q∈rest,q.1<S.l.length/\q.2<S.l.length:=λq hq=>hl q (z2q _ hq);have x1:=ok.Fu p1;have x2:=ok.Fu p2;have low:∀n,∀q∈rest,q.1<(S.lower n 0).l.length/\q.2<(S.lower n 0).l.length:=λn q hq=>by rw[show(S.lower n 0).l.length=S.l.length from JC ..];exact Aw q hq
   have D5:∀(T:E9)(x y:Nat),T.Ok->S.l.length<=T.l.length->x<T.l.length->y<T.l.length->∀q∈(T.I6 (T.root x)).zip (T.I6 (T.root y))++rest,q.1<T.l.length/\q.2<T.l.length:=by
    intro T x y okT e hx hy q hq;rcases zcq.1 hq with hq | hq
    ·exact⟨okT.Ou hx (znq hq).1,okT.Ou hy (znq hq).2⟩
    ·exact⟨z0q (Aw q hq).1 e,z0q (Aw q hq).2 e⟩
   have lw:∀n,n<S.l.length->(E.Y1 S).lower (E.rh n) 0=E.Y1 (S.lower n 0):=λn hn=>by have:=lower (E:=E) ok hn 0;rw[lv0]at this;exact this
   rw[zbq,X5,X5];have r1:(E.Y1 S).root (E.pr p).1=E.rh (S.root p.1):=root ok p1;have r2:(E.Y1 S).root (E.pr p).2=E.rh (S.root p.2):=root ok p2;simp only[r1,r2,B1s,B8R,F9 ok,lw _ x1,lw _ x2,I6 ok,zip,<- zjq]
   by_cases c1:S.root p.1=S.root p.2
   ·rw[C9 c1,C9 c1];exact P7 f S rest ok Aw
   rw[A7 c1,A7 c1];by_cases c2:S.root p.1=4
   ·rw[C9 c2,C9 c2];exact P7 f _ rest (ok.lower _ _) (low _)
   rw[A7 c2,A7 c2];by_cases c3:S.root p.2=4
   ·rw[C9 c3,C9 c3];exact P7 f _ rest (ok.lower _ _) (low _)
   rw[A7 c3,A7 c3];by_cases c4:S.F9 (S.root p.1)=6
   ·rw[C9 c4,C9 c4,become ok x1 x2 (ok.rr p2) c3];have B:=Ke ok x1 x2 (ok.rr p1) (ok.rr p2) c1 c3 c4;generalize S.become (S.root p.1) (S.root p.2)=b at B ⊢;simp only
    by_cases e0:b.2.2=0
    ·have n0:¬b.2.2≠0:=λg=>g e0;rw[A7 n0,A7 n0];cases hb:b.2.1 with
     |none=>simp only[zRq];exact P7 f _ rest B.ok λq hq=>⟨z0q (Aw q hq).1 B.ext.le,z0q (Aw q hq).2 B.ext.le⟩
     |some k=>have kl:=(B.some k e0 hb).1;have xl:=z0q x2 B.ext.le;simp only[ztq];rw[root B.ok kl,root B.ok xl,I6 B.ok,I6 B.ok,zip,<- zjq];exact P7 f _ _ B.ok (D5 _ _ _ B.ok B.ext.le kl xl)
    ·have n0:b.2.2≠0:=e0;rw[C9 n0,C9 n0];rfl
   rw[A7 c4,A7 c4];by_cases c5:S.F9 (S.root p.2)=6
   ·rw[C9 c5,C9 c5,become ok x2 x1 (ok.rr p1) c2];have B:=Ke ok x2 x1 (ok.rr p2) (ok.rr p1) (Ne.symm c1) c2 c5;generalize S.become (S.root p.2) (S.root p.1)=b at B ⊢;simp only
    by_cases e0:b.2.2=0
    ·have n0:¬b.2.2≠0:=λg=>g e0;rw[A7 n0,A7 n0];cases hb:b.2.1 with
     |none=>simp only[zRq];exact P7 f _ rest B.ok λq hq=>⟨z0q (Aw q hq).1 B.ext.le,z0q (Aw q hq).2 B.ext.le⟩
     |some k=>have kl:=(B.some k e0 hb).1;have xl:=z0q x1 B.ext.le;simp only[ztq];rw[root B.ok kl,root B.ok xl,I6 B.ok,I6 B.ok,zip,<- zjq];exact P7 f _ _ B.ok (D5 _ _ _ B.ok B.ext.le xl kl)
    ·have n0:b.2.2≠0:=e0;rw[C9 n0,C9 n0];rfl
   rw[A7 c5,A7 c5];by_cases c6:S.F9 (S.root p.1)=S.F9 (S.root p.2)
   ·have n6:¬S.F9 (S.root p.1)≠S.F9 (S.root p.2):=λg=>g c6;rw[A7 n6,A7 n6];exact P7 f S _ ok (D5 S _ _ ok (z1q _) p1 p2)
   ·have n6:S.F9 (S.root p.1)≠S.F9 (S.root p.2):=c6;rw[C9 n6,C9 n6];rfl
def agree(ok:S.Ok)(ok':(E.Y1 S).Ok){a b:Nat}(ha:a<S.l.length)(hb:b<S.l.length):(E.Y1 S).agree (E.rh a) (E.rh b)=(E.Y1 (S.agree a b).1,(S.agree a b).2):=by obtain⟨f,hf⟩:=Vw ok ha hb;have:=P7 (E:=E) f S [(a,b)] ok (by simp[ha,hb]);rw[hf]at this;exact Zq ok' (B5Z ok.five ha) (B5Z ok.five hb) this
def A89(x:Nd)(h:5<=S.l.length):5<=(S.add x).l.length:=by simp only[E9.add,zEq];omega
def Fx(t:Ty):t.rc->∀S:E9,5<=S.l.length->Fx t (E.Y1 S)=(E.Y1 (Su.Fx t S).1,E.rh (Su.Fx t S).2)/\5<=(Su.Fx t S).1.l.length:=by
 induction t using Ty.ind with
 |h t ih=>
   intro hr S h5;rw[Zf,Zf];rcases hr.E8 with⟨e,h1,h2,-⟩ | ⟨e,h1,h2,h3,-⟩
   ·rw[e];simp only[zMq,F5];exact⟨by rw[VI E (by omega)],h5⟩
   ·have hl:¬t.D5.length=0:=λg=>e (zaq.1 g);rw[A7 hl,A7 hl];have key:∀(ts:List Ty),(∀k∈ts,k∈t.D5)->∀S:E9,5<=S.l.length->Y6 ts (E.Y1 S)=(E.Y1 (Y6 ts S).1,(Y6 ts S).2.map E.rh)/\5<=(Y6 ts S).1.l.length:=by
     intro ts;induction ts with
     |nil=>intro _ S h;rw[Y6,Y6];exact⟨rfl,h⟩
     |cons k ts ihs=>intro hs S h;have hk:=hs k (z3q ..);obtain⟨a,a2⟩:=ih k hk (hr.kid hk) S h;obtain⟨c,c2⟩:=ihs (λw hw=>hs w (z2q _ hw)) _ a2;rw[Y6,Y6,a];simp only;rw[c];exact⟨rfl,c2⟩
    obtain⟨a,a2⟩:=key t.D5 (λk hk=>hk) S h5;rw[a];simp only;have:=add (E:=E) a2 ⟨t.E8.toNat,0,none,(Y6 t.D5 S).2⟩;rw[<- this,A1z a2];exact⟨rfl,A89 _ a2⟩
def put(ok:S.Ok){t:Ty}(ht:t.rc):(E.Y1 S).put t=(E.Y1 (S.put t).1,E.rh (S.put t).2.1,(S.put t).2.2):=by
 have e:(E.Y1 S).mx-(E.Y1 S).cnt=S.mx-S.cnt:=by simp only[Y1];omega
 unfold E9.put;rw[e];split
 ·rfl
 ·rw[(Fx t ht S ok.five).1]
variable (K:List (Nat×Nat))
def B4c(t:NT):∀(S:E9)(M:List (Nat×Nat)),5<=S.l.length->(t.mp E.rh).copy (K.map E.pr) (E.Y1 S,M.map E.pr)=(E.rh (t.copy K (S,M)).1,E.Y1 (t.copy K (S,M)).2.1,(t.copy K (S,M)).2.2.map E.pr)/\5<=(t.copy K (S,M)).2.1.l.length:=by
 induction t using NT.ind with
 |h r k ts ih=>
   intro S M h5;have fm:∀K:List (Nat×Nat),FC (K.map E.pr) (E.rh r)=(FC K r).map E.rh:=A5X E.bN r;have mf:(K.map E.pr).map (·.1)=(K.map (·.1)).map E.rh:=by rw[zqq,zqq];rfl
   have hs:=A6s E.bN (K.map (·.1)) (NT.mk r k ts);rw[NT.mp]at hs;rw[NT.mp,NT.copy,NT.copy,fm,mf,hs,fm];cases FC K r with
   |some t=>exact⟨rfl,h5⟩
   |none=>
     simp only[zRq]
     by_cases hh:(NT.mk r k ts).has (K.map (·.1))=false
     ·rw[C9 hh,C9 hh];exact⟨rfl,h5⟩
     ·rw[A7 hh,A7 hh];cases FC M r with
      |some t=>exact⟨rfl,h5⟩
      |none=>
        simp only[zRq];have key:∀(us:List NT),(∀u∈us,u∈ts)->∀(S:E9)(M:List (Nat×Nat)),5<=S.l.length->NT.U9 (K.map E.pr) (NT.Xt E.rh us) (E.Y1 S,M.map E.pr)=((NT.U9 K us (S,M)).1.map E.rh,E.Y1 (NT.U9 K us (S,M)).2.1,(NT.U9 K us (S,M)).2.2.map E.pr)/\5<=(NT.U9 K us (S,M)).2.1.l.length:=by
         intro us;induction us with
         |nil=>intro _ S M h;rw[NT.Xt,NT.U9,NT.U9];exact⟨rfl,h⟩
         |cons u us ihu=>intro hs S M h;obtain⟨a,a2⟩:=ih u (hs u (z3q ..)) S M h;obtain⟨c,c2⟩:=ihu (λw hw=>hs w (z2q _ hw)) (u.copy K (S,M)).2.1 (u.copy K (S,M)).2.2 a2;rw[NT.Xt,NT.U9,NT.U9,a];simp only;rw[c];exact⟨rfl,c2⟩
        obtain⟨a,a2⟩:=key ts (λu hu=>hu) S M h5;rw[a];simp only;generalize NT.U9 K ts (S,M)=q at a2 ⊢;have:=add (E:=E) a2 ⟨k,0,none,q.1⟩;rw[<- this,A1z a2];exact⟨by rw[zjq];rfl,A89 _ a2⟩
theorem keys{S:E9}(ok:S.Ok):∀(fs ts:List Nat)(K:List (Nat×Nat)),(∀f∈fs,f<S.l.length)->(E.Y1 S).keys (fs.map E.rh) (ts.map E.rh) (K.map E.pr)=(S.keys fs ts K).map (List.map E.pr)
 |[],ts,K,_=>rfl
 |f::fs,ts,K,h=>by
   have mf:(K.map E.pr).map (·.1)=(K.map (·.1)).map E.rh:=by rw[zqq,zqq];rfl
   have h0:(ts.map E.rh).headD 0=E.rh (ts.headD 0):=by
    cases ts with
    |nil=>exact(VI E (n:=0) (by omega)).symm
    |cons t ts=>rfl
   have ht:(ts.map E.rh).tail=ts.tail.map E.rh:=by cases ts<;>rfl
   rw[zbq,E9.keys,E9.keys,root ok (h f (z3q ..)),F9 ok,mf,h0,ht];simp only[ug]
   split
   ·have:=keys ok fs ts.tail (K++[(S.root f,ts.headD 0)]) λx hx=>h x (z2q _ hx);rw[zjq]at this;exact this
   ·rfl
variable {n:Nat}
def need(ok:S.Ok)(hn:n<S.l.length)(K:List (Nat×Nat)):(E.Y1 S).need (K.map E.pr) (E.rh n)=S.need K n:=by
 have mf:(K.map E.pr).map (·.1)=(K.map (·.1)).map E.rh:=by rw[zqq,zqq];rfl
 unfold E9.need;rw[roots ok hn,yhq,zsq,mf];congr 1;refine zZq λr hr=>?_;simp only[Function.comp];rw[F9 ok,I8 ok (ok.NL hn hr),A6s E.bN]
theorem copy(ok:S.Ok)(hn:n<S.l.length){fs ts:List Nat}(hf:∀f∈fs,f<S.l.length):(E.Y1 S).copy (E.rh n) (fs.map E.rh) (ts.map E.rh)=(E.Y1 (S.copy n fs ts).1,E.rh (S.copy n fs ts).2.1,(S.copy n fs ts).2.2):=by
 have e:(E.Y1 S).mx-(E.Y1 S).cnt=S.mx-S.cnt:=by simp only[Y1];omega
 have hk:=keys (E:=E) ok fs ts [] hf;rw[zAq]at hk;unfold E9.copy;rw[hk];cases S.keys fs ts []with
 |none=>simp only[zRq];rw[VI E (n:=0) (by omega)]
 |some K=>
   simp only[ztq];rw[need ok hn,e,I8 ok hn,tick];have c:=(B4c (E:=E) K (S.I8 n) S.tick [] ok.five).1;rw[zAq]at c;rw[c];split
   ·rw[VI E (n:=0) (by omega)]
   ·rfl
def read(ok:S.Ok)(hn:n<S.l.length):(E.Y1 S).read (E.rh n)=(E.Y1 (S.read n).1,if (S.read n).2.2=0 then((S.I8 n).mp E.rh).ty else zTy,(S.read n).2.2):=by
 have e:(E.Y1 S).mx-(E.Y1 S).cnt=S.mx-S.cnt:=by simp only[Y1];omega
 unfold E9.read;rw[I8 ok hn,A7z,e];split
 ·rfl
 ·simp only[F5]
  congr 1;simp only[Y1]
  congr 1;omega
end Mb
section
variable (E:Mb)
end
end Go.Su

/-
 INFERENCE: more fuel turns nothing; a run that is well leaves what is bad as it was; what reading can turn.
-/
namespace Go.Su
set_option linter.defProp false
section
variable {R R':Rec}{e:Ex}
def A6D{k:Ex}(h:R k=R' k)(w:W)(A9:Nat)(l:List EN):L6 R w k A9 l=L6 R' w k A9 l:=by unfold L6;rw[h]
def A9b{A9:Nat}{l:List EN}{v r:Nat}:∀(qs:List (F6×Ex))(w:W),(∀a∈qs,R a.2=R' a.2)->E_ R A9 l v r qs w=E_ R' A9 l v r qs w
 |[],w,_=>by rw[E_,E_]
 | (p,k)::qs,w,h=>by
   have hk:=A6D (h (p,k) (z3q ..));simp only at hk;rw[E_,E_];split
   ·rfl
   ·simp only[hk]
    exact A9b qs _ λa ha=>h a (z2q _ ha)
def B24{A9:Nat}{l:List EN}{want:Nat}:∀(ks:List Ex)(w:W),(∀k∈ks,R k=R' k)->Ho R A9 l want ks w=Ho R' A9 l want ks w
 |[],w,_=>by rw[Ho,Ho]
 |k::ks,w,h=>by rw[Ho,Ho,A6D (h k (z3q ..))];exact B24 ks _ λa ha=>h a (z2q _ ha)
def B6j(hr:e.right=true)(h:∀k∈e.D5,R k=R' k)(w:W)(A9:Nat)(l:List EN):T9 R w e A9 l=T9 R' w e A9 l:=by
 obtain⟨k1,k2,k3⟩:=Ex.kV hr;have kd:∀i,i<e.D5.length->∀(w:W)(A9:Nat)(l:List EN),L6 R w (e.kd i) A9 l=L6 R' w (e.kd i) A9 l:=λi hi=>A6D (h _ (Ex.Cg hi));unfold T9;by_cases g:e.E8=1
 ·rw[C9 g,C9 g]
 rw[A7 g,A7 g];by_cases g:e.E8=2\/e.E8=3\/e.E8=4\/e.E8=5
 ·rw[C9 g,C9 g]
 rw[A7 g,A7 g];by_cases g:e.E8=6
 ·have n2:e.D5.length=2:=by simp[g,M6]at k3;omega
  rw[C9 g,C9 g];simp only[kd 0 (by omega),kd 1 (by omega)]
 rw[A7 g,A7 g];by_cases g:e.E8=7
 ·rw[C9 g,C9 g]
 rw[A7 g,A7 g];by_cases g:e.E8=8
 ·have n2:e.D5.length=2:=by simp[g,M6]at k3;omega
  rw[C9 g,C9 g];unfold QZ;simp only[kd 0 (by omega),kd 1 (by omega)]
 rw[A7 g,A7 g];by_cases g:e.E8=9
 ·have n2:e.D5.length=1:=by simp[g,M6]at k3;omega
  rw[C9 g,C9 g];simp only[kd 0 (by omega)]
 rw[A7 g,A7 g];by_cases g:e.E8=10
 ·have n2:e.D5.length=2:=by simp[g,M6]at k3;omega
  rw[C9 g,C9 g];unfold Vx;simp only[kd 0 (by omega),kd 1 (by omega)]
 rw[A7 g,A7 g];by_cases g:e.E8=11
 ·have n2:e.D5.length=2:=by simp[g,M6]at k3;omega
  rw[C9 g,C9 g];unfold WN;simp only[kd 0 (by omega),kd 1 (by omega)]
 rw[A7 g,A7 g];by_cases g:e.E8=12
 ·have n2:e.D5.length=2:=by simp[g,M6]at k3;omega
  rw[C9 g,C9 g];unfold WS;simp only[kd 0 (by omega),kd 1 (by omega)]
 rw[A7 g,A7 g];by_cases g:e.E8=13
 ·have n2:e.D5.length=3:=by simp[g,M6]at k3;omega
  rw[C9 g,C9 g];unfold QY;simp only[kd 0 (by omega),kd 1 (by omega),kd 2 (by omega)]
 rw[A7 g,A7 g];by_cases g:e.E8=14
 ·have n1:e.D5.length=e.J7.length+1:=by simp[g,M6]at k3;omega
  rw[C9 g,C9 g];unfold MX;simp only[kd 0 (by omega)]
  exact A9b _ _ λa ha=>h _ (zHq (znq ha).2)
 rw[A7 g,A7 g];by_cases g:e.E8=15
 ·have n2:e.D5.length=1:=by simp[g,M6]at k3;omega
  rw[C9 g,C9 g];simp only[kd 0 (by omega)]
 rw[A7 g,A7 g];rw[B24 e.D5 w h]
end
def A00:∀(f g:Nat)(e:Ex),e.right=true->e.size<=f->e.size<=g->M5 f e=M5 g e
 |0,g,e,hr,h,_=>by have:=e.size_eq;omega
 |f+1,0,e,hr,_,h=>by have:=e.size_eq;omega
 |f+1,g+1,e,hr,h1,h2=>by funext A9 l w;rw[M5,M5];simp only;rw[B6j (R:=M5 f) (R':=M5 g) hr λk hk=>A00 f g k (Ex.ED hr hk) (by have:=Ex.Cy hk;omega) (by have:=Ex.Cy hk;omega)]
variable (w:W)
def Bd(w':W):Prop:=w'.err=0->w.err=0/\w'.bad=w.bad
def Bd.refl:Bd w w:=λh=>⟨h,rfl⟩
def Bd.trans{a b c:W}(h:Bd a b)(k:Bd b c):Bd a c:=λe=>by obtain⟨k1,k2⟩:=k e;obtain⟨h1,h2⟩:=h k1;exact⟨h1,k2.trans h2⟩
section
variable {a w:W}
def PM(h:Bd a w)(e:Nat)(b:JN):Bd a (w.fails e b):=h.trans λg=>by
 unfold W.fails at g ⊢;split
 ·rename_i c;rw[C9 c]at g;exact absurd g c.2
 ·rename_i c;rw[A7 c]at g;exact⟨g,rfl⟩
def A1T(h:Bd a w)(S:E9):Bd a { w with s:=S }:=h
def lY(h:Bd a w)(l:List Nat):Bd a (w.Aq l):=h
def A9h(h:Bd a w)(l:List Nat):Bd a (w.ZU l):=h
def A5i(h:Bd a w)(n A9:Nat):Bd a (w.above n A9).1:=h
def NC(h:Bd a w)(A9:Nat):Bd a (w.fresh A9).1:=by
 unfold W.fresh;split
 ·exact h
 ·exact PM (A1T h _) _ _
def ZV(h:Bd a w)(k x y:Nat):Bd a (w.made k x y).1:=by
 unfold W.made;split
 ·exact h
 ·exact PM (A1T h _) _ _
def A5j(h:Bd a w)(t:Ty):Bd a (w.put t).1:=by
 unfold W.put;split
 ·exact h
 ·exact PM (A1T h _) _ _
def Ed(h:Bd a w)(x y:Nat)(e:Ex):Bd a (w.agree x y e):=by
 unfold W.agree;split
 ·exact h
 ·exact PM (A1T h _) _ _
def A9g{q:W×Nat}(h:Bd a q.1):Bd a (W.tell q).1:=h
def yz(h:Bd a w)(t:Ty)(A9:Nat):Bd a (w.AP t A9).1:=by
 unfold W.AP;split
 ·exact A5j h t
 ·exact A9g (NC h A9)
def A1S(A9:Nat):∀(k:Nat){w:W},Bd a w->Bd a (W.many A9 k w)
 |0,w,h=>h
 |k+1,w,h=>A1S A9 k (A9g (NC h A9))
def B6h(h:Bd a w)(e:Ex)(A9:Nat)(l:List EN):Bd a (w.name e A9 l).1:=by
 unfold W.name;split
 ·exact PM h _ _
 ·split
  ·exact h
  ·simp only
   split
   ·exact A1S A9 _ h
   ·exact PM (A1T (A1S A9 _ h) _) _ _
def B6f(h:Bd a w)(f x:Nat)(e:Ex)(A9:Nat):Bd a (gG w f x e A9).1:=by
 unfold gG;split
 ·exact h
 ·split
  ·exact Ed h _ _ _
  ·split
   ·exact Ed (Ed (ZV (NC (NC h _) _) _ _ _) _ _ _) _ _ _
   ·split
    ·exact Ed h _ _ _
    ·exact PM h _ _
variable {R:Rec}{e:Ex}{A9:Nat}{l:List EN}
def RBd(R:Rec)(k:Ex):Prop:=∀A9 l w,Bd w (R k A9 l w).1
def Cc{k:Ex}(hk:RBd R k)(h:Bd a w)(A9:Nat)(l:List EN):Bd a (L6 R w k A9 l).1:=by
 unfold L6;split
 ·exact h
 ·exact h.trans (hk A9 l w)
def A9f{v r:Nat}:∀(qs:List (F6×Ex))(w:W),(∀a∈qs,RBd R a.2)->Bd a w->Bd a (E_ R A9 l v r qs w).1
 |[],w,_,h=>by rw[E_];exact h
 | (p,k)::qs,w,hq,h=>by
   rw[E_];split
   ·exact h
   ·exact A9f qs _ (λx hx=>hq x (z2q _ hx)) (Ed (Cc (hq (p,k) (z3q ..)) (PM (A1T h _) _ _) _ _) _ _ _)
def B14{want:Nat}:∀(ks:List Ex)(w:W),(∀k∈ks,RBd R k)->Bd a w->Bd a (Ho R A9 l want ks w)
 |[],w,_,h=>by rw[Ho];exact h
 |k::ks,w,hq,h=>by rw[Ho];exact B14 ks _ (λx hx=>hq x (z2q _ hx)) (Ed (Cc (hq k (z3q ..)) h _ _) _ _ _)
def B6g(hr:e.right=true)(hk:∀k∈e.D5,RBd R k)(h:Bd a w):Bd a (T9 R w e A9 l).1:=by
 obtain⟨k1,k2,k3⟩:=Ex.kV hr;have kd:∀i,i<e.D5.length->RBd R (e.kd i):=λi hi=>hk _ (Ex.Cg hi);unfold T9;by_cases g:e.E8=1
 ·rw[C9 g];exact B6h h _ _ _
 rw[A7 g];by_cases g:e.E8=2\/e.E8=3\/e.E8=4\/e.E8=5
 ·rw[C9 g];exact h
 rw[A7 g];by_cases g:e.E8=6
 ·have n2:e.D5.length=2:=by simp[g,M6]at k3;omega
  rw[C9 g];exact ZV (Cc (kd 1 (by omega)) (Cc (kd 0 (by omega)) h _ _) _ _) _ _ _
 rw[A7 g];by_cases g:e.E8=7
 ·rw[C9 g];exact ZV (lY (NC h _) _) _ _ _
 rw[A7 g];by_cases g:e.E8=8
 ·have n2:e.D5.length=2:=by simp[g,M6]at k3;omega
  rw[C9 g];unfold QZ;exact Ed (ZV (Ed (lY (NC (Cc (kd 1 (by omega)) (Cc (kd 0 (by omega)) h _ _) _ _) _) _) _ _ _) _ _ _) _ _ _
 rw[A7 g];by_cases g:e.E8=9
 ·have n2:e.D5.length=1:=by simp[g,M6]at k3;omega
  rw[C9 g];exact ZV (Cc (kd 0 (by omega)) (yz h _ _) _ _) _ _ _
 rw[A7 g];by_cases g:e.E8=10
 ·have n2:e.D5.length=2:=by simp[g,M6]at k3;omega
  rw[C9 g];unfold Vx;exact B6f (Cc (kd 1 (by omega)) (Cc (kd 0 (by omega)) h _ _) _ _) _ _ _ _
 rw[A7 g];by_cases g:e.E8=11
 ·have n2:e.D5.length=2:=by simp[g,M6]at k3;omega
  rw[C9 g];unfold WN;split
  ·exact Cc (kd 1 (by omega)) (Ed (A5j (Cc (kd 0 (by omega)) h _ _) _) _ _ _) _ _
  ·split
   ·simp only
    split
    ·exact Cc (kd 1 (by omega)) (Cc (kd 0 (by omega)) h _ _) _ _
    ·exact Cc (kd 1 (by omega)) (A9h (A5i (Cc (kd 0 (by omega)) h _ _) _ _) _) _ _
   ·exact Cc (kd 1 (by omega)) (Cc (kd 0 (by omega)) h _ _) _ _
 rw[A7 g];by_cases g:e.E8=12
 ·have n2:e.D5.length=2:=by simp[g,M6]at k3;omega
  rw[C9 g];unfold WS;simp only;have b:=Ed (Cc (kd 0 (by omega)) (ZV (yz (yz h e.a (A9+1)) e.b (A9+1)) 9 (w.AP e.a (A9+1)).2 ((w.AP e.a (A9+1)).1.AP e.b (A9+1)).2) (A9+1) (l++[⟨e.name,(((w.AP e.a (A9+1)).1.AP e.b (A9+1)).1.made 9 (w.AP e.a (A9+1)).2 ((w.AP e.a (A9+1)).1.AP e.b (A9+1)).2).2,[]⟩,⟨e.arg,(w.AP e.a (A9+1)).2,[]⟩]));split
  ·exact Cc (kd 1 (by omega)) (b _ _ _) _ _
  ·exact Cc (kd 1 (by omega)) (A9h (A5i (b _ _ _) _ _) _) _ _
 rw[A7 g];by_cases g:e.E8=13
 ·have n2:e.D5.length=3:=by simp[g,M6]at k3;omega
  rw[C9 g];unfold QY;exact Ed (Ed (lY (NC (Cc (kd 2 (by omega)) (Cc (kd 1 (by omega)) (Ed (Cc (kd 0 (by omega)) h _ _) _ _ _) _ _) _ _) _) _) _ _ _) _ _ _
 rw[A7 g];by_cases g:e.E8=14
 ·have n1:e.D5.length=e.J7.length+1:=by simp[g,M6]at k3;omega
  rw[C9 g];unfold MX;exact A9f _ _ (λa ha=>hk _ (zHq (znq ha).2)) (lY (NC (Ed (NC (Cc (kd 0 (by omega)) h _ _) _) _ _ _) _) _)
 rw[A7 g];by_cases g:e.E8=15
 ·have n2:e.D5.length=1:=by simp[g,M6]at k3;omega
  rw[C9 g];exact Ed (A5j (Cc (kd 0 (by omega)) h _ _) _) _ _ _
 rw[A7 g];exact B14 _ _ hk h
end
def A5W:∀(f:Nat)(e:Ex),e.right=true->RBd (M5 f) e
 |0,e,hr=>λA9 l w=>by rw[M5];exact Bd.refl w
 |f+1,e,hr=>λA9 l w=>by rw[M5];exact B6g (a:=w) (w:={ w with types:=[],vars:=[],D5:=[] }) hr (λk hk=>A5W f k (Ex.ED hr hk)) (Bd.refl w)
def Rl(w':W):Prop:=(w.err≠0->w'=w)/\(w.err=0->w'.err=0\/w'.err=7)
def Rl.refl:Rl w w:=⟨λ_=>rfl,λh=>.inl h⟩
def Rl.trans{a b c:W}(h:Rl a b)(k:Rl b c):Rl a c:=by
 refine⟨λe=>?_,λe=>?_⟩
 ·have h1:=h.1 e;subst h1;exact k.1 e
 ·rcases h.2 e with g | g
  ·exact k.2 g
  ·have:=k.1 (by omega);rw[this];exact .inr g
theorem B50(n:Nat)(h:w.err=0):Rl w (w.rd n):=by
 refine⟨λg=>absurd h g,λ_=>?_⟩;unfold W.rd;rw[dh _ _ _ (by exact h)];unfold E9.read;split
 ·exact .inr rfl
 ·exact .inl rfl
mutual
theorem A7f:∀(d:DD)(w:W),Rl w (AY d w)
 |.mk n ts vs ks,w=>by
   by_cases h:w.err=0
   ·have h':¬w.err≠0:=λg=>g h;rw[AY,A7 h'];exact(B50 w n h).trans (A3O ks _)
   ·rw[A1r h];exact Rl.refl w
theorem A3O:∀(ks:List DD)(w:W),Rl w (K_ ks w)
 |[],w=>by rw[K_];exact Rl.refl w
 |k::ks,w=>by rw[K_];exact(A7f k w).trans (A3O ks _)
end
def A7h:∀(ts:List Nat)(w:W),Rl w (Az ts w).1
 |[],w=>by rw[Az];exact Rl.refl w
 |n::ts,w=>by
   by_cases h:w.err=0
   ·have h':¬w.err≠0:=λg=>g h;rw[Az,A7 h'];exact(B50 w n h).trans (A7h ts _)
   ·rw[vC h];exact Rl.refl w
mutual
theorem A9Q:∀(d:DD)(w:W),Rl w (BP d w).1
 |.mk n ts vs ks,w=>by rw[BP];exact(A7h ts w).trans (A7g ks _)
theorem A7g:∀(ks:List DD)(w:W),Rl w (C_ ks w).1
 |[],w=>by rw[C_];exact Rl.refl w
 |k::ks,w=>by
   by_cases h:w.err=0
   ·have h':¬w.err≠0:=λg=>g h;rw[C_,A7 h'];exact(A9Q k w).trans (A7g ks _)
   ·rw[u_ h];exact Rl.refl w
end
theorem A7j(e:Ex)(m:Nat):((J3 e m).1.err≠0->(U6 e m).err=(J3 e m).1.err/\(U6 e m).bad=(J3 e m).1.bad)/\((J3 e m).1.err=0->(U6 e m).err=0\/(U6 e m).err=7):=by
 have r:=(A7f (J3 e m).2.2 (J3 e m).1).trans (A9Q (J3 e m).2.2 _);unfold U6;simp only;generalize hq:(BP (J3 e m).2.2 (AY (J3 e m).2.2 (J3 e m).1))=q at r ⊢;refine⟨λh=>?_,λh=>?_⟩
 ·have:=r.1 h;rw[this,C9 h];exact⟨rfl,rfl⟩
 ·split
  ·rename_i g;rcases r.2 h with k | k
   ·exact absurd k g
   ·exact .inr k
  ·exact .inl rfl
end Go.Su

/-
 NAMES: a run looks at what is bound to the free names alone; what has a type has no free names but those that are bound.
-/
namespace Go.Su
section
variable {R:Rec}{e:Ex}
end
end Go.Su

/-
 NAMES, continued: expressions.
-/
namespace Go.Su
section
variable {R:Rec}{e:Ex}
end
section
variable {R:Rec}{e:Ex}
end
end Go.Su

/-
 NAMES, continued: what has a type has no free names but those that are bound.
-/
namespace Go.Su
section
variable {R:Rec}{e:Ex}
end
end Go.Su

/-
 TYPES WITH THEIR VARIABLES NUMBERED in the order in which they occur.
-/
namespace Go.Su
set_option linter.defProp false
mutual
def Ty.Gf:Ty->List Int
 |.mk k n ts=>(if k=6 then[n]else[])++FE ts
def FE:List Ty->List Int
 |[]=>[]
 |t::ts=>t.Gf++FE ts
end
mutual
def Ty.rn(f:Int->Int):Ty->Ty
 |.mk k n ts=>.mk k (if k=6 then f n else n) (TV f ts)
def TV(f:Int->Int):List Ty->List Ty
 |[]=>[]
 |t::ts=>t.rn f::TV f ts
end
theorem lF(f:Int->Int):∀ts:List Ty,TV f ts=ts.map (Ty.rn f)
 |[]=>by rw[TV];rfl
 |t::ts=>by rw[TV,lF f ts];rfl
inductive Ty.Pl:Ty->Prop
 |mk (k n:Int) (ts:List Ty):(k=6->ts=[])->(k≠6->n=0)->(∀t∈ts,Ty.Pl t)->Ty.Pl (.mk k n ts)
def Ty.Pl.all{k n:Int}{ts:List Ty}(h:Ty.Pl (.mk k n ts)):(k=6->ts=[])/\(k≠6->n=0)/\∀t∈ts,Ty.Pl t:=by cases h;exact⟨‹_›,‹_›,‹_›⟩
def B6P(N:List Int)(t:Ty):t.Pl->Hm N t=t.rn (numOf N):=by
 induction t using Ty.ind with
 |h t ih=>
   cases t with
   |mk k n ts=>
     intro h;obtain⟨h1,h2,h3⟩:=h.all;rw[Hm,Ty.rn,lF];split
     ·rename_i g;rw[h1 g];rfl
     ·rename_i g;split
      ·rename_i g2;rw[zaq.1 g2];rfl
      ·rw[ui,h2 g];congr 1;exact ziq λk hk=>ih k hk (h3 k hk)
variable {t:Ty}
def Ty.Pl.rn(f:Int->Int):t.Pl->(t.rn f).Pl:=by
 induction t using Ty.ind with
 |h t ih=>
   cases t with
   |mk k n ts=>intro h;obtain⟨h1,h2,h3⟩:=h.all;rw[Ty.rn,lF];refine .mk _ _ _ (λg=>by rw[h1 g];rfl) (λg=>by rw[A7 g];exact h2 g) λt ht=>?_;obtain⟨u,hu,rfl⟩:=zmq.1 ht;exact ih u hu (h3 u hu)
mutual
theorem A9H(f:Int->Int):∀t:Ty,(t.rn f).Gf=t.Gf.map f
 |.mk k n ts=>by rw[Ty.rn,Ty.Gf,Ty.Gf,A61 f ts,zjq];congr 1;split<;>rfl
theorem A61(f:Int->Int):∀ts:List Ty,FE (TV f ts)=(FE ts).map f
 |[]=>by rw[TV,FE];rfl
 |t::ts=>by rw[TV,FE,FE,A9H f t,A61 f ts,zjq]
end
mutual
theorem B1u{f g:Int->Int}:∀t:Ty,(∀v∈t.Gf,f v=g v)->t.rn f=t.rn g
 |.mk k n ts,h=>by
   rw[Ty.Gf]at h;rw[Ty.rn,Ty.rn,B3g ts λv hv=>h v (zGq _ hv)];congr 1;by_cases e:k=6
   ·rw[C9 e,C9 e];exact h n (zyq _ (by rw[C9 e];exact z6q.2 rfl))
   ·rw[A7 e,A7 e]
theorem B3g{f g:Int->Int}:∀ts:List Ty,(∀v∈FE ts,f v=g v)->TV f ts=TV g ts
 |[],_=>by rw[TV,TV]
 |t::ts,h=>by rw[FE]at h;rw[TV,TV,B1u t λv hv=>h v (zyq _ hv),B3g ts λv hv=>h v (zGq _ hv)]
end
mutual
theorem B51:∀t:Ty,(t.rn λv=>v)=t
 |.mk k n ts=>by rw[Ty.rn,B3h ts];congr 1;split<;>rfl
theorem B3h:∀ts:List Ty,(TV (λv=>v) ts)=ts
 |[]=>by rw[TV]
 |t::ts=>by rw[TV,B51 t,B3h ts]
end
mutual
theorem A9T(f:Int->Int):∀t:Ty,(t.rn f).size=t.size
 |.mk k n ts=>by rw[Ty.rn,Ty.size_eq,Ty.size_eq,Ty.S9,Ty.S9,A7A f ts]
theorem A7A(f:Int->Int):∀ts:List Ty,((TV f ts).map Ty.size)=ts.map Ty.size
 |[]=>by rw[TV]
 |t::ts=>by rw[TV,zbq,zbq,A9T f t,A7A f ts]
end
theorem bC(v:Int)(vs N:List Int):Da (v::vs) N=Da vs (if v∈N then N else N++[v]):=rfl
def A6T(a b N:List Int):Da (a++b) N=Da b (Da a N):=List.foldl_append ..
def A6Q{x:Int}:∀(l N:List Int),x∈Da l N↔x∈N\/x∈l
 |[],N=>by simp[Da]
 |v::l,N=>by
   rw[bC,A6Q l];by_cases h:v∈N
   ·rw[C9 h,zfq];constructor
    ·rintro(g | g)
     ·exact .inl g
     ·exact .inr (.inr g)
    ·rintro(g | g | g)
     ·exact .inl g
     ·exact .inl (g ▸ h)
     ·exact .inr g
   ·rw[A7 h,zcq,z6q,zfq,or_assoc]
def A1m:∀(l N:List Int),N.Nodup->(Da l N).Nodup
 |[],N,h=>h
 |v::l,N,h=>by
   rw[bC];refine A1m l _ ?_;split
   ·exact h
   ·rename_i g;rw[ybq];exact⟨h,by simp,λa ha c hc=>by rw[z6q.1 hc];intro e;exact g (e ▸ ha)⟩
def zk:∀(l N:List Int),∃M,Da l N=N++M
 |[],N=>⟨[],by simp[Da]⟩
 |v::l,N=>by
   rw[bC];obtain⟨M,e⟩:=zk l (if v∈N then N else N++[v]);rw[e];split
   ·exact⟨M,rfl⟩
   ·exact⟨[v]++M,by rw[zJq]⟩
def zi{f:Int->Int}:∀(l N:List Int),(∀a b,(a∈N\/a∈l)->(b∈N\/b∈l)->f a=f b->a=b)->Da (l.map f) (N.map f)=(Da l N).map f
 |[],N,_=>rfl
 |v::l,N,h=>by
   rw[zbq,bC,bC];have mem:f v∈N.map f↔v∈N:=by
    rw[zmq];constructor
    ·rintro⟨y,hy,e⟩;have:=h y v (.inl hy) (.inr (z3q ..)) e;rw[<- this];exact hy
    ·intro g;exact⟨v,g,rfl⟩
   by_cases g:v∈N
   ·rw[C9 g,C9 (mem.2 g)];exact zi l N λa b ha hb=>h a b (ha.imp_right (z2q _)) (hb.imp_right (z2q _))
   ·rw[A7 g,A7 (λk=>g (mem.1 k))];have:=zi (f:=f) l (N++[v]) λa b ha hb=>by
     refine h a b ?_ ?_
     ·rcases ha with ha | ha
      ·rcases zcq.1 ha with ha | ha
       ·exact .inl ha
       ·exact .inr (by rw[z6q.1 ha];exact z3q ..)
      ·exact .inr (z2q _ ha)
     ·rcases hb with ha | ha
      ·rcases zcq.1 ha with ha | ha
       ·exact .inl ha
       ·exact .inr (by rw[z6q.1 ha];exact z3q ..)
      ·exact .inr (z2q _ ha)
    rw[zjq]at this;exact this
variable (t:Ty)
def A82:∀l:List Int,t.Bw l=Da t.Gf l:=by
 induction t using Ty.ind with
 |h t ih=>
   cases t with
   |mk k n ts=>
     intro l;rw[Ty.Bw,Ty.Gf,A6T];have e:(if k=6/\n∉l then l++[n]else l)=Da (if k=6 then[n]else[]) l:=by
      by_cases g:k=6
      ·rw[C9 g,bC];by_cases g2:n∈l
       ·rw[C9 g2,A7 (λh=>h.2 g2)];rfl
       ·rw[A7 g2,C9 ⟨g,g2⟩];rfl
      ·rw[A7 g,A7 (λh=>g h.1)];rfl
     rw[e];have key:∀(us:List Ty),(∀u∈us,u∈ts)->∀l:List Int,us.foldl (λl k=>k.Bw l) l=Da (FE us) l:=by
      intro us;induction us with
      |nil=>intro _ l;rw[FE];rfl
      |cons u us ihu=>intro hs l;rw[yiq,FE,A6T,ih u (hs u (z3q ..))];exact ihu (λw hw=>hs w (z2q _ hw)) _
     exact key ts (λu hu=>hu) _
def fM:t.vars=Da t.Gf []:=A82 t []
variable {t:Ty}
def bB{v:Int}:v∈t.vars↔v∈t.Gf:=by rw[fM,A6Q];simp
variable (t:Ty)
def A1O:t.vars.Nodup:=by rw[fM];exact A1m _ _ y6q
noncomputable def canon:Ty:=t.rn (numOf t.vars)
def B22{N M:List Int}{v:Int}(h:v∈N):numOf (N++M) v=numOf N v:=by unfold numOf;rw[C9 h,C9 (zyq _ h),List.idxOf_append,C9 h]
def B1f{t:Ty}(h:t.Pl){N M:List Int}(hN:N=t.vars++M):Hm N t=canon t:=by rw[B6P N t h];exact B1u t λv hv=>by rw[hN];exact B22 (bB.2 hv)
mutual
theorem A6S:∀(d:K8)(N:List Int),∃M,nY d N=N++M
 |.mk ts vs ks,N=>by
   rw[nY];have h1:∀(ts:List Ty)(N:List Int),∃M,ts.foldl (λN t=>Da t.vars N) N=N++M:=by
    intro ts;induction ts with
    |nil=>intro N;exact⟨[],by simp⟩
    |cons t ts ih=>intro N;rw[yiq];obtain⟨M1,e1⟩:=zk t.vars N;obtain⟨M2,e2⟩:=ih (Da t.vars N);exact⟨M1++M2,by rw[e2,e1,zJq]⟩
   obtain⟨M1,e1⟩:=h1 ts N;obtain⟨M2,e2⟩:=zk vs (ts.foldl (λN t=>Da t.vars N) N);obtain⟨M3,e3⟩:=A3z ks (Da vs (ts.foldl (λN t=>Da t.vars N) N));exact⟨M1++M2++M3,by rw[e3,e2,e1];simp[zJq]⟩
theorem A3z:∀(ks:List K8)(N:List Int),∃M,ZK ks N=N++M
 |[],N=>⟨[],by rw[ZK];simp⟩
 |k::ks,N=>by rw[ZK];obtain⟨M1,e1⟩:=A6S k N;obtain⟨M2,e2⟩:=A3z ks (nY k N);exact⟨M1++M2,by rw[e2,e1,zJq]⟩
end
def A3A:∀(l N:List Int),(N++l).Nodup->Da l N=N++l
 |[],N,_=>by simp[Da]
 |v::l,N,h=>by
   rw[bC];have hv:v∉N:=λg=>by rw[ybq]at h;exact h.2.2 v g v (z3q ..) rfl
   have e:N++v::l=(N++[v])++l:=by simp
   rw[A7 hv,e];exact A3A l (N++[v]) (by rw[<- e];exact h)
def B6Z{t:Ty}(h:t.Pl)(d:K8):Hm (nY d (Da t.vars [])) t=canon t:=by
 obtain⟨M,e⟩:=A6S d (Da t.vars []);have e2:Da t.vars []=t.vars:=by have:=A3A t.vars [] (by simpa using A1O t);simpa using this
 exact B1f h (M:=M) (by rw[e,e2])
def B21{N:List Int}{a b:Int}(ha:a∈N)(hb:b∈N)(h:numOf N a=numOf N b):a=b:=by
 unfold numOf at h;rw[C9 ha,C9 hb]at h;have h:N.idxOf a=N.idxOf b:=by omega
 have l1:=y7q (zkq ha);have l2:=y7q (zkq hb);have:N[N.idxOf a]?=N[N.idxOf b]?:=by rw[h]
 rw[z4q (zkq ha),z4q (zkq hb),l1,l2]at this;exact Option.some.inj this
theorem B1e:∀{N:List Int},N.Nodup->N.map (numOf N)=(List.range N.length).map Int.ofNat:=by
 intro N h;refine ycq (by simp) λi a c=>?_;have hi:i<N.length:=by simpa using a
 rw[zBq,zBq,List.getElem_range];unfold numOf;rw[C9 (z9q hi),List.Nodup.idxOf_getElem h];rfl
def B0l:(canon t).vars=(List.range t.vars.length).map Int.ofNat:=by unfold canon;rw[fM,A9H];have:=zi (f:=numOf t.vars) t.Gf [] λa b ha hb=>B21 (bB.2 (by simpa using ha)) (bB.2 (by simpa using hb));rw[zAq]at this;rw[this,<- fM,B1e (A1O t)]
end Go.Su

/-
 A PAIR'S RUN: its first kid's, then its second kid's within the first one's store.
-/
namespace Go.Su
set_option linter.defProp false
def A3F{v:Int}:∀{ts:List Ty},v∈FE ts->∃t∈ts,v∈t.Gf
 |[],h=>by rw[FE]at h;cases h
 |t::ts,h=>by
   rw[FE]at h;rcases zcq.1 h with h | h
   ·exact⟨t,z3q ..,h⟩
   ·obtain⟨u,hu,hv⟩:=A3F h;exact⟨u,z2q _ hu,hv⟩
def B3K{S:E9}(ok:S.Ok)(t:NT):∀n,U2 S n t->t.ty.Pl/\∀v∈t.ty.Gf,∃r:Nat,v=(r:Int)/\5<=r/\r<S.l.length:=by
 induction t using NT.ind with
 |h r k ts ih=>
   intro n hu;obtain⟨d,d1,d2,d3,d4,d5⟩:=hu.nd;simp only[NT.JD,NT.Ux,NT.S9]at d1 d3 d4 d5;have kd:=ok.ki _ _ d1;have hk:k=6->ts=[]:=λg=>by
    have:ts.length=0:=by rw[<- d4,kd.1,d3,g];rfl
    exact zaq.1 this
   have sub:∀u∈ts,∃m,U2 S m u:=λu h=>hu.kid (u:=u) h;rw[NT.ty,NT.QG];refine⟨.mk _ _ _ (λg=>?_) (λg=>?_) λt ht=>?_,λv hv=>?_⟩
   ·rw[hk (by omega),zAq]
   ·rw[A7 (by omega)]
   ·obtain⟨u,h1,rfl⟩:=zmq.1 ht;obtain⟨m,hm⟩:=sub u h1;exact(ih u h1 m hm).1
   ·rw[Ty.Gf]at hv;rcases zcq.1 hv with h | h
    ·by_cases g:k=6
     ·have g':(k:Int)=6:=by omega
      rw[C9 g',z6q,C9 g]at h;refine⟨r,h,?_,(zuq.1 d1).1⟩;rcases zvq r 5 with g5 | g5
      ·rw[ok.base r g5]at d1;cases d1;simp only at d3;omega
      ·exact g5
     ·have g':¬(k:Int)=6:=by omega
      rw[A7 g']at h;cases h
    ·obtain⟨t,ht,hv⟩:=A3F h;obtain⟨u,h1,rfl⟩:=zmq.1 ht;obtain⟨m,hm⟩:=sub u h1;exact(ih u h1 m hm).2 v hv
structure XF(e:Ex)(m:Nat):Prop where
 ok:(J3 e m).1.s.Ok
 mx:(J3 e m).1.s.mx=m
 lt:(J3 e m).2.1<(J3 e m).1.s.l.length
 root:∃ts vs ks,(J3 e m).2.2=.mk (J3 e m).2.1 ts vs ks
 bad:(J3 e m).1.err=0->(J3 e m).1.bad=U1
variable {m:Nat}
def B5p(hm:m<=65536):AF (⟨EQ m,U1,0,[],[],[]⟩:W):=⟨N_ hm,by simp,⟨by simp,by simp⟩,trivial⟩
def Zh{e:Ex}(hr:e.right=true)(hs:e.size<2 ^ 29)(hm:m<=65536):XF e m:=by
 obtain⟨k1,k2,k3,k4⟩:=Qb e.size e hr 1 [] _ (by omega) (B5p hm) (λx hx=>by cases hx);have b:=A5W e.size e hr 1 [] ⟨EQ m,U1,0,[],[],[]⟩;refine⟨k1,k2.mx,k3,?_,λh=>(b h).2⟩;unfold J3;have:e.size≠0:=by have:=e.size_eq;omega
 obtain⟨f,hf⟩:=zOq this;rw[hf,M5];exact⟨_,_,_,rfl⟩
def oM{e:Ex}(x:XF e m)(h:(U6 e m).err=0):(J3 e m).1.err=0/\(U6 e m).ty=canon ((J3 e m).1.s.I8 (J3 e m).2.1).ty:=by
 have e0:(J3 e m).1.err=0:=by
  by_cases g:(J3 e m).1.err=0
  ·exact g
  ·exact absurd ((((A7j e m).1 g).1).symm.trans h) g
 refine⟨e0,?_⟩;obtain⟨ts,vs,ks,hd⟩:=x.root;have k1:=x.ok;unfold U6 at h ⊢;simp only at h ⊢;by_cases g0:(BP (J3 e m).2.2 (AY (J3 e m).2.2 (J3 e m).1)).1.err=0
 ·have g0':¬(BP (J3 e m).2.2 (AY (J3 e m).2.2 (J3 e m).1)).1.err≠0:=λh=>h g0;rw[A7 g0'];simp only;have n0:=yT g0;rw[hd,AY,A7 (λh=>h e0)]at n0;have e':(({ (J3 e m).1 with s:=((J3 e m).1.s.read (J3 e m).2.1).1 }:W).fails ((J3 e m).1.s.read (J3 e m).2.1).2.2 U1)=(J3 e m).1.rd (J3 e m).2.1:=rfl;rw[e']at n0;obtain⟨a1,-,-,a4⟩:=oI k1 (J3 e m).2.1;have er:=(a4 ((Xv ks _ a1).2 n0).1).2.1;have rd:=((lC k1 (J3 e m).2.1).2.2.2.2 er).2.2;rw[rd];exact B6Z (B3K k1 _ _ (k1.I8 x.lt)).1 _
 ·rw[C9 (show _≠0 from g0)]at h;exact absurd h g0
def A8s(f:Nat)(e:Ex)(A9:Nat)(l:List EN)(w:W):M5 (f+1) e A9 l w=M5 (f+1) e A9 l { w with types:=[],vars:=[],D5:=[] }:=by simp only[M5]
end Go.Su

/-
 A PAIR'S RUN, as it is told: its type is the pair of its kids' types, each with variables of its own.
-/
namespace Go.Su
set_option linter.defProp false
def B42{f:Int->Int}(t:Ty):t.Pl->t.right=true->(∀v∈t.Gf,0<=f v/\f v<=1048576)->(t.rn f).right=true:=by
 induction t using Ty.ind with
 |h t ih=>
   cases t with
   |mk k m ts=>
     intro h hr hv;obtain⟨h1,h2,h3⟩:=h.all;rw[Ty.right_eq]at hr;simp only[z8q,I4,zdq]at hr;obtain⟨⟨⟨⟨r1,r2⟩,r3⟩,r4⟩,r5⟩:=hr;have r1:IB k=ts.length:=r1;have r2:0<=m:=r2;have r3:m<=1048576:=r3;rw[Ty.Gf]at hv;rw[Ty.rn,lF,Ty.right_eq];simp only[z8q,I4,zdq];have hn:0<=(if k=6 then f m else m)/\(if k=6 then f m else m)<=1048576/\((decide (k=6)||decide ((if k=6 then f m else m)=0))=true):=by
      by_cases g:k=6
      ·have:=hv m (zyq _ (by rw[C9 g];exact z6q.2 rfl));rw[C9 g];exact⟨this.1,this.2,by simp[g]⟩
      ·rw[A7 g];exact⟨r2,r3,by simp[g,h2 g]⟩
     refine⟨⟨⟨⟨by rw[Ty.S9,zsq];exact r1,hn.1⟩,hn.2.1⟩,hn.2.2⟩,λt ht=>?_⟩;obtain⟨u,hu,rfl⟩:=zmq.1 ht;refine ih u hu (h3 u hu) (r5 u hu) λv RD=>hv v (zGq _ ?_);have:∀(us:List Ty),u∈us->v∈FE us:=by
      intro us;induction us with
      |nil=>intro h;cases h
      |cons w us ihu=>
        intro h;rw[FE];rcases zfq.1 h with rfl | h
        ·exact zyq _ RD
        ·exact zGq _ (ihu h)
     exact this ts hu
def B3J{S:E9}(ok:S.Ok)(t:NT):∀n,U2 S n t->t.ty.right=true:=by
 induction t using NT.ind with
 |h r k ts ih=>
   intro n hu;obtain⟨d,d1,d2,d3,d4,d5⟩:=hu.nd;simp only[NT.JD,NT.Ux,NT.S9]at d1 d3 d4 d5;have kd:=ok.ki _ _ d1;have rl:=(zuq.1 d1).1;have:=ok.lc;have:=ok.cm;have:=ok.mm;rw[NT.ty,NT.QG,Ty.right_eq];simp only[z8q,I4,zdq];refine⟨⟨⟨⟨?_,by rw[Ty.Sl];split<;>omega⟩,by rw[Ty.Sl];split<;>omega⟩,?_⟩,λt ht=>?_⟩
   ·rw[Ty.S9,Ty.Gb,zsq,<- d4,kd.1,d3];have k1:=kd.2.1;have k9:=kd.2.2.1;rw[d3]at k1 k9;unfold IB Ml;have:k=1\/k=2\/k=3\/k=4\/k=5\/k=6\/k=7\/k=8\/k=9:=by omega
    rcases this with rfl | rfl | rfl | rfl | rfl | rfl | rfl | rfl | rfl<;>rfl
   ·by_cases g:k=6
    ·subst g;rfl
    ·rw[Ty.Sl,A7 g];simp
   ·obtain⟨u,h1,rfl⟩:=zmq.1 ht;obtain⟨m,hm⟩:=hu.kid (u:=u) h1;exact ih u h1 m hm
def B4R{N:List Int}{v:Int}:0<=numOf N v/\(N≠[]->numOf N v<N.length):=by
 unfold numOf;by_cases h:v∈N
 ·rw[C9 h];have:=zkq h;exact⟨by omega,λ_=>by omega⟩
 ·rw[A7 h];refine⟨by omega,λg=>?_⟩;have:=List.length_pos_iff.2 g;omega
def A79{t:Ty}(h:t.Pl)(hr:t.right=true)(hs:t.vars.length<=1048576):(canon t).right=true :=B42 t h hr λv hv=>by have m:=bB.2 hv;obtain⟨a,c⟩:=B4R (N:=t.vars) (v:=v);have:=c (List.ne_nil_of_mem m);omega
structure TyF(t:Ty):Prop where
 pl:t.Pl
 right:t.right=true
 vars:t.vars=(List.range t.vars.length).map Int.ofNat
 size:t.size<=65536
def B44{e:Ex}(hr:e.right=true)(hs:e.size<2 ^ 29){m:Nat}(hm:m<=65536)(h:(U6 e m).err=0):TyF (U6 e m).ty:=by
 have x:=Zh hr hs hm;have sz:=(A7k hr hs hm).1;obtain⟨-,e1⟩:=oM x h;have p:=(B3K x.ok _ _ (x.ok.I8 x.lt)).1;have r:=B3J x.ok _ _ (x.ok.I8 x.lt);have vl:((J3 e m).1.s.I8 (J3 e m).2.1).ty.vars.length<=65536:=by rw[e1]at sz;unfold canon at sz;rw[A9T]at sz;have:=((J3 e m).1.s.I8 (J3 e m).2.1).ty.pK [];simp only[zMq]at this;unfold Ty.vars;omega
 refine⟨by rw[e1];exact p.rn _,by rw[e1];exact A79 p r (by omega),?_,sz⟩;rw[e1,B0l];simp
end Go.Su

/-
 A FUNCTION'S RUN: its body's run behind a parameter's node; another name for the parameter turns nothing.
-/
namespace Go.Su
set_option linter.defProp false
def P0(m:Nat):W:=⟨(EQ m).add ⟨6,1,none,[]⟩,U1,0,[5],[],[]⟩
noncomputable def vo(e:Ex)(l:List EN)(S:E9):W×Nat×DD:=M5 e.size e 1 l ⟨S,U1,0,[],[],[]⟩
def B9G{e:Ex}(hr:e.right=true){k:Nat}(hk:e.size<=k)(l:List EN){w:W}(h0:w.err=0)(hb:w.bad=U1):L6 (M5 k) w e 1 l=({ (vo e l w.s).1 with types:=w.types,vars:=w.vars,D5:=w.D5++[(vo e l w.s).2.2] },(vo e l w.s).2.1):=by
 obtain⟨j,hj⟩:∃j,e.size=j+1:=⟨e.size-1,by have:=e.size_eq;omega⟩;have:M5 k e 1 l w=vo e l w.s:=by unfold vo;rw[A00 k e.size e hr hk (z1q _),hj,A8s];congr 1;cases w;simp only at h0 hb;subst h0;subst hb;rfl
 unfold L6;rw[A7 (λg=>g h0),this]
end Go.Su

/-
 NAMES AND TYPES, as they are told.
-/
namespace Go.Su
theorem pE{e:Ex}{m:Nat}(h7:(U6 e m).err≠7):(U6 e m).err=(J3 e m).1.err/\(J3 e m).1.err≠7:=by
 obtain⟨a,c⟩:=A7j e m;by_cases g:(J3 e m).1.err=0
 ·rcases c g with k | k
  ·exact⟨by rw[k,g],by omega⟩
  ·exact absurd k h7
 ·exact⟨(a g).1,λk=>h7 ((a g).1.trans k)⟩
section
variable {e one:Ex}(ok1:one.E8=9)(k1:one.D5=[e])(a1:one.a.E8=0)(r1:one.right=true)(s1:one.size<2 ^ 28){m:Nat}(hm:0<m)(kM:m<=65536)
include ok1 k1 a1 r1 s1 hm kM
end
end Go.Su

/-
 AGREEMENT WITH AN INSTANCE: a node, and a closed one whose type is the first's with static types for its variables.
-/
namespace Go.Su
set_option linter.defProp false
mutual
def NT.sb(σ : Nat->Ty):NT->Ty
 |.mk r k ts=>if k=6 then σ r else .mk k 0 (NT.sbL σ ts)
def NT.sbL(σ : Nat->Ty):List NT->List Ty
 |[]=>[]
 |t::ts=>t.sb σ :: NT.sbL σ ts
end
theorem lG(σ : Nat->Ty):∀ts:List NT,NT.sbL σ ts=ts.map (NT.sb σ)
 |[]=>by rw[NT.sbL];rfl
 |t::ts=>by rw[NT.sbL,lG σ ts];rfl
inductive NT.Cl:NT->Prop
 |mk (r k:Nat) (ts:List NT):k≠6->(∀t∈ts,NT.Cl t)->NT.Cl (.mk r k ts)
def NT.Cl.all{r k:Nat}{ts:List NT}(h:NT.Cl (.mk r k ts)):k≠6/\∀t∈ts,NT.Cl t:=by cases h;exact⟨‹_›,‹_›⟩
variable (t:NT)
def Cl.sb{σ : Nat->Ty}:t.Cl->t.sb σ = t.ty:=by
 induction t using NT.ind with
 |h r k ts ih=>intro h;obtain⟨h1,h2⟩:=h.all;rw[NT.sb,NT.ty,A7 h1,A7 h1,lG,NT.QG];congr 1;exact ziq λt ht=>ih t ht (h2 t ht)
variable {S:E9}
def U2.F9{n:Nat}{t:NT}(h:U2 S n t):S.F9 t.r=t.k:=by obtain⟨d,d1,-,d3,-⟩:=h.nd;rw[CB d1];exact d3
variable {x:Nat}
def Cl.not(hx:S.F9 x=6)(t:NT):∀n,U2 S n t->t.Cl->x∉t.all:=by
 induction t using NT.ind with
 |h r k ts ih=>
   intro n hu hc hm;obtain⟨h1,h2⟩:=hc.all;rcases NT.BZ.1 hm with e | ⟨u,CR,hm⟩
   ·have:=hu.F9;rw[<- e,hx]at this;exact h1 this.symm
   ·obtain⟨m,RB⟩:=hu.kid (u:=u) CR;exact ih u CR m RB (h2 u CR) hm
def B6r(ok:S.Ok)(t:NT):∀n,U2 S n t->t.ty.CW 5=true->4∉t.all:=by
 induction t using NT.ind with
 |h r k ts ih=>
   intro n hu hw hm;rw[NT.ty,Ty.Ea,NT.QG]at hw;simp only[z8q,zdq]at hw;rcases NT.BZ.1 hm with e | ⟨u,CR,hm⟩
   ·have h1:=hu.F9;have h1:S.F9 r=k:=h1;have e:4=r:=e;rw[<- e,CB (ok.base 4 (by omega))]at h1;have h2:=hw.1;rw[<- h1]at h2;simp at h2
   ·obtain⟨m,RB⟩:=hu.kid (u:=u) CR;exact ih u CR m RB (hw.2 _ (List.mem_map_of_mem CR)) hm
def B6W{σ : Nat->Ty}{u:NT}(hx:S.F9 x=6)(hu:u.sb σ = σ x)(t:NT):∀n,U2 S n t->(NT.iL x u t).sb σ = t.sb σ := by
 induction t using NT.ind with
 |h r k ts ih=>
   intro n h;rw[NT.iL];by_cases e:r=x
   ·rw[C9 e,hu];have h1:S.F9 r=k:=h.F9;rw[e,hx]at h1;rw[NT.sb,C9 h1.symm,e]
   ·rw[A7 e,NT.sb,NT.sb];by_cases k6:k=6
    ·rw[C9 k6,C9 k6]
    ·rw[A7 k6,A7 k6,lG,lG,oG,zqq];congr 1;refine ziq λt ht=>?_;obtain⟨m,hm⟩:=h.kid (u:=t) ht;exact ih t ht m hm
def Tn(σ : Nat->Ty)(S:E9)(l:List (Nat×Nat)):Prop:=∀p∈l,p.1<S.l.length/\p.2<S.l.length/\(S.I8 p.2).Cl/\(S.I8 p.1).sb σ = (S.I8 p.2).ty
def wu(S F:E9):Prop:=F.l.length=S.l.length/\∀n,n<S.l.length->(S.I8 n).Cl->F.I8 n=S.I8 n
def wu.trans{T F:E9}(h:wu S T)(k:wu T F):wu S F:=⟨k.1.trans h.1,λn hn hc=>by rw[k.2 n (by rw[h.1];exact hn) (by rw[h.2 n hn hc];exact hc),h.2 n hn hc]⟩
def zY{T:E9}(ok:S.Ok)(L:V6 S T){n:Nat}(hn:n<S.l.length):T.I8 n=S.I8 n:=((ok.I8 hn).like L).eq
def wu.like{T:E9}(ok:S.Ok)(L:V6 S T)(hl:T.l.length=S.l.length):wu S T:=⟨hl,λn hn _=>zY ok L hn⟩
def Tn.like{σ : Nat->Ty}{T:E9}(ok:S.Ok)(L:V6 S T)(hl:T.l.length=S.l.length){l:List (Nat×Nat)}(h:Tn σ S l):Tn σ T l:=λp hp=>by obtain⟨a,b,c,d⟩:=h p hp;rw[hl,zY ok L a,zY ok L b];exact⟨a,b,c,d⟩
def B2F{σ : Nat->Ty}(ok:S.Ok){y:Nat}(hx:x<S.l.length)(hy:y<S.l.length)(rx:S.root x=x)(ry:S.root y=y)(hne:x≠y)(h6:S.F9 x=6)(hc:(S.I8 y).Cl)(hs:(S.I8 y).ty = σ x):
 (S.link x y).2=0/\(S.link x y).1.Ok/\wu S (S.link x y).1/\∀l,Tn σ S l->Tn σ (S.link x y).1 l:=by
 have L:=ZZ ok hx hy;have hu:=ok.I8 hy;have nx:x∉(S.I8 y).all:=Cl.not h6 _ _ hu hc;have e:S.link x y=((S.tick.Ay x y).lower y (S.X4 x),0):=by
  unfold E9.link;rw[rx,ry,A7,A7]
  ·intro h;exact nx ((ok.CS hy).1 h)
  ·rintro(h | h)
   ·exact h h6
   ·exact hne h
 obtain⟨d,d1,d2,-,-,d5,-⟩:=ok.nd hx;rw[rx]at d1 d5;have U:∀n,n<S.l.length->(S.link x y).1.I8 n=NT.iL x (S.I8 y) (S.I8 n):=λn hn=>by rw[e];exact(((U2.link (S:=S.tick) d1 d2 hu.tick nx (S.I8 n) n (ok.I8 hn).tick)).like (V6.lower _ _ _)).eq
 have U0:∀n,n<S.l.length->(S.I8 n).Cl->(S.link x y).1.I8 n=S.I8 n:=λn hn hcn=>by rw[e];exact((U2.B5S (S:=S.tick) d1 d2 (S.I8 n) n (ok.I8 hn).tick (Cl.not h6 _ _ (ok.I8 hn) hcn)).like (V6.lower _ _ _)).eq
 refine⟨by rw[e],L.ok,⟨L.len,U0⟩,λl h p hp=>?_⟩;obtain⟨a,b,c,g⟩:=h p hp;rw[L.len,U p.1 a,U0 p.2 b c];exact⟨a,b,c,by rw[B6W h6 (by rw[Cl.sb _ hc];exact hs) _ _ (ok.I8 a)];exact g⟩
def B2N{σ : Nat->Ty}(ok:S.Ok){y:Nat}(hx:x<S.l.length)(hy:y<S.l.length)(hc:(S.I8 y).Cl)(hs:(S.I8 x).sb σ = (S.I8 y).ty)(h6:S.F9 (S.root x)≠6):Tn σ S ((S.I6 (S.root x)).zip (S.I6 (S.root y))):=by
 obtain⟨d,d1,d2,d3,d4,d5⟩:=(ok.I8 hx).nd;obtain⟨e,e1,e2,e3,e4,e5⟩:=(ok.I8 hy).nd;have kx:S.I6 (S.root x)=d.D5:=Cu d1;have ky:S.I6 (S.root y)=e.D5:=Cu e1;have k6:(S.I8 x).k≠6:=by rw[<- d3,<- CB d1];exact h6
 have ux:S.I8 x=.mk (S.I8 x).r (S.I8 x).k (S.I8 x).D5:=by cases S.I8 x;rfl
 have uy:S.I8 y=.mk (S.I8 y).r (S.I8 y).k (S.I8 y).D5:=by cases S.I8 y;rfl
 rw[uy]at hc;obtain⟨c1,c2⟩:=hc.all;rw[ux,uy,NT.sb,A7 k6,NT.ty,lG,NT.QG]at hs;injection hs with _ _ Lc;rw[kx,ky];intro p hp;obtain⟨i,hi,ep⟩:=zrq.1 hp;rw[List.length_zip]at hi;rw[List.getElem_zip]at ep;have i1:i<(S.I8 x).D5.length:=by omega
 have i2:i<(S.I8 y).D5.length:=by omega
 have u1:=d5 i (by omega) i1;have u2:=e5 i (by omega) i2;rw[<- ep];simp only;refine⟨u1.lt,u2.lt,by rw[u2.eq];exact c2 _ (z9q i2),?_⟩;rw[u1.eq,u2.eq];have:((S.I8 x).D5.map (NT.sb σ))[i]?=((S.I8 y).D5.map NT.ty)[i]?:=by rw[Lc]
 rw[zQq,zQq,z4q i1,z4q i2]at this;exact Option.some.inj this
def QU{σ : Nat->Ty}(hσ : ∀r,(σ r).CW 5=true):∀(f:Nat)(S:E9)(l:List (Nat×Nat))(q:E9×Nat×Nat×Nat),S.Ok->Tn σ S l->E9.P7 f S l=some q->q.2.2.2=0/\q.1.Ok/\wu S q.1
 |0,S,l,q,ok,hl,h=>by simp[E9.P7]at h
 |f+1,S,[],q,ok,hl,h=>by simp only[E9.P7,D8]at h;subst h;exact⟨rfl,ok,.like ok (V6.refl S) rfl⟩
 |f+1,S,p::rest,q,ok,hl,h=>by
   obtain⟨p1,p2,pc,ps⟩:=hl p (z3q ..);have Aw:Tn σ S rest:=λq hq=>hl q (z2q _ hq);have x1:=ok.Fu p1;have x2:=ok.Fu p2;have self:∀n,n<S.l.length->S.I8 (S.root n)=S.I8 n:=λn hn=>(ok.I8 hn).self.eq;have low:∀n,Tn σ (S.lower n 0) rest:=λn=>Aw.like ok (V6.lower S n 0) (JC ..);have B8w:∀n,wu S (S.lower n 0):=λn=>.like ok (V6.lower S n 0) (JC ..);rw[X5]at h;by_cases c1:S.root p.1=S.root p.2
   ·rw[C9 c1]at h;exact QU hσ f S rest q ok Aw h
   rw[A7 c1]at h;by_cases c2:S.root p.1=4
   ·rw[C9 c2]at h;obtain⟨a,b,c⟩:=QU hσ f _ rest q (ok.lower _ _) (low _) h;exact⟨a,b,(B8w _).trans c⟩
   rw[A7 c2]at h;by_cases c3:S.root p.2=4
   ·rw[C9 c3]at h;obtain⟨a,b,c⟩:=QU hσ f _ rest q (ok.lower _ _) (low _) h;exact⟨a,b,(B8w _).trans c⟩
   rw[A7 c3]at h;have k2:S.F9 (S.root p.2)≠6:=by
    have:=(ok.I8 p2).F9;have e:S.F9 (S.root p.2)=(S.I8 p.2).k:=this;rw[e];cases hu:S.I8 p.2 with
    |mk r k ts=>rw[hu]at pc;exact pc.all.1
   by_cases c4:S.F9 (S.root p.1)=6
   ·rw[C9 c4]at h;have pty:(S.I8 p.2).ty = σ (S.root p.1):=by
     rw[<- ps];have e:S.F9 (S.root p.1)=(S.I8 p.1).k:=(ok.I8 p1).F9;have er:S.root p.1=(S.I8 p.1).r:=rfl;rw[c4]at e;rw[er];cases hu:S.I8 p.1 with
     |mk r k ts=>rw[hu]at e;have e:6=k:=e;rw[NT.sb,C9 e.symm];rfl
    have n4:4∉S.roots (S.root p.2):=λg=>by have g1:=(ok.CS x2).1 g;rw[self p.2 p2]at g1;exact B6r ok _ _ (ok.I8 p2) (by rw[pty];exact hσ _) g1
    have bc:S.become (S.root p.1) (S.root p.2)=((S.tick.link (S.root p.1) (S.root p.2)).1,none,(S.tick.link (S.root p.1) (S.root p.2)).2):=by unfold E9.become;rw[A7 k2,C9 n4]
    have tk:∀n,n<S.l.length->S.tick.I8 n=S.I8 n:=λn hn=>(ok.I8 hn).tick.eq;have rt:∀n,n<S.l.length->S.tick.root n=S.root n:=λn hn=>(ok.I8 hn).tick.GR;obtain⟨l1,l2,l3,l4⟩:=B2F (σ := σ) ok.tick (x:=S.root p.1) (y:=S.root p.2) x1 x2 ((rt _ x1).trans (ok.rr p1)) ((rt _ x2).trans (ok.rr p2)) c1 c4 (by rw[tk _ x2,self p.2 p2];exact pc) (by rw[tk _ x2,self p.2 p2];exact pty);rw[bc]at h;simp only[l1]at h;rw[A7 (by simp)]at h;have tl:Tn σ S.tick rest:=Aw.like ok (V6.tick S) rfl;obtain⟨a,b,c⟩:=QU hσ f _ rest q l2 (l4 _ tl) h;exact⟨a,b,(wu.like ok (V6.tick S) rfl).trans (l3.trans c)⟩
   rw[A7 c4,A7 k2]at h;have e1:S.F9 (S.root p.1)=(S.I8 p.1).k:=(ok.I8 p1).F9;have e2:S.F9 (S.root p.2)=(S.I8 p.2).k:=(ok.I8 p2).F9;have ek:S.F9 (S.root p.1)=S.F9 (S.root p.2):=by
    rw[e1,e2];rw[e1]at c4;cases hu:S.I8 p.1 with
    |mk r k ts=>
      cases hv:S.I8 p.2 with
      |mk r' k' ts'=>rw[hu]at c4;have c4:¬k=6:=c4;rw[hu,hv,NT.sb,A7 c4,NT.ty]at ps;injection ps with g _ _;show k=k';omega
   rw[A7 (show ¬S.F9 (S.root p.1)≠S.F9 (S.root p.2)from λg=>g ek)]at h;refine QU hσ f S _ q ok (λw hw=>?_) h;rcases zcq.1 hw with hw | hw
   ·exact B2N ok p1 p2 pc ps c4 w hw
   ·exact Aw w hw
end Go.Su

/-
 AN EXPRESSION WITH A TYPE SAID OF IT: ? fits whatever has a type; so does an instance of the type.
-/
namespace Go.Su
theorem B4Z(t:Ty):t.rc->∀S:E9,S.Ok->S.cnt+GG t<=S.mx->∃u:NT,U2 (Fx t S).1 (Fx t S).2 u/\u.ty=t/\u.Cl:=by
 induction t using Ty.ind with
 |h t ih=>
   intro hr S ok hc;have P:=Qj t hr S ok hc;rw[Zf]at P ⊢;rw[Pq]at hc P;rcases hr.E8 with⟨e,h1,h2,h0⟩ | ⟨e,h1,h2,h3,h0⟩
   ·rw[e];simp only[zMq,F5];have b:=ok.base (t.E8-1).toNat (by omega);refine⟨.mk (t.E8-1).toNat ((t.E8-1).toNat+1) [],.mk (d:=⟨(t.E8-1).toNat+1,0,none,[]⟩) (.here b rfl) b rfl λi h _=>by simp at h,?_,.mk _ _ _ (by omega) (by intro t ht;cases ht)⟩;rw[NT.ty,NT.tyL,A7 (by omega)];cases t with
    |mk k n ts=>simp only[Ty.S9,Ty.Gb,Ty.Sl]at e h0 h1 ⊢;rw[e,h0];congr 1;omega
   ·have hl:¬t.D5.length=0:=λg=>e (zaq.1 g);rw[A7 hl]at hc;rw[A7 hl];have key:∀(ts:List Ty),(∀k∈ts,k∈t.D5)->∀S:E9,S.Ok->S.cnt+BJ ts<=S.mx->∃us:List NT,us.length=ts.length/\us.map NT.ty=ts/\(∀u∈us,u.Cl)/\(Y6 ts S).2.length=us.length/\(Y6 ts S).1.Ok/\Ct S (Y6 ts S).1/\∀(i:Nat)(h:i<(Y6 ts S).2.length)(h':i<us.length),U2 (Y6 ts S).1 (Y6 ts S).2[i] us[i]:=by
     intro ts;induction ts with
     |nil=>intro _ S ok _;exact⟨[],rfl,rfl,by simp,by simp[Y6],by rw[Y6];exact ok,by rw[Y6];exact Ct.refl S,by intro i h h';simp at h'⟩
     |cons k ts ihs=>
       intro hs S ok hc;rw[BJ]at hc;have hk:=hs k (z3q ..);obtain⟨a,a2⟩:=Qj k (hr.kid hk) S ok (by omega);obtain⟨u,u1,u2,u3⟩:=ih k hk (hr.kid hk) S ok (by omega);have ac:=a.cnt;have am:=a.U3.mx;obtain⟨us,v1,v2,v3,v4,v5,v6,v7⟩:=ihs (λw hw=>hs w (z2q _ hw)) _ a.ok (by omega);rw[Y6];refine⟨u::us,by simp[v1],by rw[zbq,u2,v2],λw hw=>?_,by simp[v4],v5,a.U3.trans v6,λi h h'=>?_⟩
       ·rcases zfq.1 hw with rfl | hw
        ·exact u3
        ·exact v3 w hw
       ·cases i with
        |zero=>exact u1.like v6.like
        |succ i=>exact v7 i (by simpa using h) (by simpa using h')
    obtain⟨us,v1,v2,v3,v4,v5,v6,v7⟩:=key t.D5 (λk hk=>hk) S ok (by omega);have g:((Y6 t.D5 S).1.add ⟨t.E8.toNat,0,none,(Y6 t.D5 S).2⟩).l[(Y6 t.D5 S).1.l.length]?=some ⟨t.E8.toNat,0,none,(Y6 t.D5 S).2⟩:=by simp[E9.add]
    refine⟨.mk (Y6 t.D5 S).1.l.length t.E8.toNat us,.mk (.here g rfl) g v4 λi h h'=>(v7 i h h').like (V6.add _ _),?_,.mk _ _ _ (by omega) v3⟩;rw[NT.ty,NT.QG,v2,A7 (by omega)];cases t with
    |mk k n ts=>simp only[Ty.S9,Ty.Gb,Ty.Sl]at h0 h1 ⊢;rw[h0];congr 1;omega
section
variable {e q:Ex}(qk:q.E8=15)(qks:q.D5=[e])(hr:q.right=true)(hs:q.size<2 ^ 28){m:Nat}(hm:m<=65536)
include qk qks hr hs hm
theorem B5B:∃w1:W,w1.s=(J3 e m).1.s/\w1.err=(J3 e m).1.err/\w1.bad=(J3 e m).1.bad/\(J3 q m).1=(w1.put q.a).1.agree (J3 e m).2.1 (w1.put q.a).2 e/\(J3 q m).2.1=(w1.put q.a).2:=by
 have he:e.right=true:=Ex.ED hr (by rw[qks];exact z3q ..);have se:e.size<q.size:=Ex.Cy (by rw[qks];exact z3q ..);obtain⟨k,hk⟩:∃k,q.size=k+1:=⟨q.size-1,by have:=q.size_eq;omega⟩;have kd0:q.kd 0=e:=by simp[Ex.kd,qks]
 have kx:=B9G he (show e.size<=k by omega) [] (w:=⟨EQ m,U1,0,[],[],[]⟩) rfl rfl;have hX:vo e [] (EQ m)=J3 e m:=rfl;rw[hX]at kx;refine⟨{ (J3 e m).1 with types:=[],vars:=[],D5:=[]++[(J3 e m).2.2] },rfl,rfl,rfl,?_⟩;have bd:T9 (M5 k) (⟨EQ m,U1,0,[],[],[]⟩:W) q 1 []=((({ (J3 e m).1 with types:=[],vars:=[],D5:=[]++[(J3 e m).2.2] }:W).put q.a).1.agree (J3 e m).2.1 (({ (J3 e m).1 with types:=[],vars:=[],D5:=[]++[(J3 e m).2.2] }:W).put q.a).2 e,(({ (J3 e m).1 with types:=[],vars:=[],D5:=[]++[(J3 e m).2.2] }:W).put q.a).2):=by unfold T9;simp only[qk,kd0,kx];simp
 have:J3 q m=M5 q.size q 1 [] ⟨EQ m,U1,0,[],[],[]⟩:=rfl;rw[this,hk,M5];have b1:=congrArg (λx:W×Nat=>x.1) bd;have b2:=congrArg (λx:W×Nat=>x.2) bd;exact⟨b1,b2⟩
theorem B6d(qa:q.a=.mk 5 0 [])(f7:(U6 e m).err≠7)(g7:(U6 q m).err≠7):(U6 q m).err=(U6 e m).err/\((U6 q m).err=0->(U6 q m).ty.E8=5):=by
 have he:e.right=true:=Ex.ED hr (by rw[qks];exact z3q ..);have se:e.size<q.size:=Ex.Cy (by rw[qks];exact z3q ..);have xe:=Zh he (show e.size<2 ^ 29 by omega) hm;obtain⟨f1,f2⟩:=pE f7;obtain⟨g1,g2⟩:=pE g7;obtain⟨w1,s1,s2,s3,x1,x2⟩:=B5B qk qks hr hs hm;by_cases e0:(J3 e m).1.err=0
 ·have p:w1.put q.a=(w1,4):=by
   unfold W.put;rw[A7 (λg=>g (s2.trans e0)),qa];have:w1.s.put (.mk 5 0 [])=(w1.s,4,0):=by
    unfold E9.put;have:GG (.mk 5 0 [])=0:=by rw[GG];rfl
    rw[this,A7 (by omega),Fx];rfl
   rw[this];unfold W.fails;rw[A7 (by simp)]
  rw[p]at x1 x2;simp only at x1 x2;have ok:=xe.ok;have f5:=ok.five;have r4:(J3 e m).1.s.root 4=4:=(X6.here (ok.base 4 (by omega)) rfl).eq (ok.wf 4 (by omega));have ag:∃T:E9,(J3 e m).1.s.agree (J3 e m).2.1 4=(T,0,0,0)/\V6 (J3 e m).1.s T:=by
   by_cases c:(J3 e m).1.s.root (J3 e m).2.1=4
   ·refine⟨(J3 e m).1.s,Zq (f:=2) ok xe.lt (by omega) ?_,V6.refl _⟩;rw[X5,C9 (by simp only[c,r4]),E9.P7]
   ·refine⟨(J3 e m).1.s.lower ((J3 e m).1.s.root (J3 e m).2.1) 0,Zq (f:=2) ok xe.lt (by omega) ?_,V6.lower _ _ _⟩;rw[X5];simp only[r4,c,G8,F5];rw[E9.P7]
  obtain⟨T,ag,L⟩:=ag;have w2:w1.agree (J3 e m).2.1 4 e={ w1 with s:=T }:=by unfold W.agree;rw[A7 (λg=>g (s2.trans e0)),s1,ag];unfold W.fails;rw[A7 (by simp)]
  rw[w2]at x1;have z:(J3 q m).1.err=0:=by rw[x1];exact s2.trans e0
  have zq:(U6 q m).err=0:=g1.trans z;refine⟨by rw[zq,f1,e0],λ_=>?_⟩;rw[(oM (Zh hr (by omega) hm) zq).2,x1,x2];have b:=ok.base 4 (by omega);have u:U2 T 4 (.mk 4 5 []):=(U2.mk (S:=(J3 e m).1.s) (d:=⟨5,0,none,[]⟩) (.here b rfl) b rfl λi h _=>by simp at h).like L;show(canon (T.I8 4).ty).E8=5;rw[u.eq,NT.ty,NT.tyL];unfold canon;rw[Ty.rn];rfl
 ·have p:w1.put q.a=(w1,0):=by unfold W.put;rw[C9 (by rw[s2];exact e0)]
  rw[p]at x1;have w2:w1.agree (J3 e m).2.1 0 e=w1:=by unfold W.agree;rw[C9 (by rw[s2];exact e0)]
  simp only at x1;rw[w2]at x1;have z:(J3 q m).1.err=(J3 e m).1.err:=by rw[x1,s2]
  refine⟨by rw[g1,f1,z],λh=>?_⟩;rw[g1,z]at h;exact absurd h e0
theorem B6e{σ : Nat->Ty}(hσ : ∀r,(σ r).CW 5=true)(ra:q.a.rc)(f0:(U6 e m).err=0)(qa:q.a=((J3 e m).1.s.I8 (J3 e m).2.1).sb σ)(g7:(U6 q m).err≠7):(U6 q m).err=0/\(U6 q m).ty=q.a:=by
 have he:e.right=true:=Ex.ED hr (by rw[qks];exact z3q ..);have se:e.size<q.size:=Ex.Cy (by rw[qks];exact z3q ..);have xe:=Zh he (show e.size<2 ^ 29 by omega) hm;obtain⟨f1,f2⟩:=pE (e:=e) (m:=m) (by omega);have e0:(J3 e m).1.err=0:=f1.symm.trans f0;obtain⟨g1,g2⟩:=pE g7;obtain⟨w1,s1,s2,s3,x1,x2⟩:=B5B qk qks hr hs hm;have ok:=xe.ok;have e1:w1.err=0:=s2.trans e0;have p:w1.put q.a=(({ w1 with s:=(w1.s.put q.a).1 }:W).fails (w1.s.put q.a).2.2 U1,(w1.s.put q.a).2.1):=by unfold W.put;rw[A7 (λg=>g e1)]
 rw[s1]at p;by_cases Q8:GG q.a>(J3 e m).1.s.mx-(J3 e m).1.s.cnt
 ·exfalso;have:(J3 e m).1.s.put q.a=((J3 e m).1.s,0,7):=by unfold E9.put;rw[C9 Q8]
  rw[this]at p;have p7:(w1.put q.a).1.err=7:=by rw[p];exact dh _ _ _ e1
  have:(w1.put q.a).1.agree (J3 e m).2.1 (w1.put q.a).2 e=(w1.put q.a).1:=by unfold W.agree;rw[C9 (by omega)]
  rw[this]at x1;exact g2 (by rw[x1];exact p7)
 ·have cm:=ok.cm;have hc:(J3 e m).1.s.cnt+GG q.a<=(J3 e m).1.s.mx:=by omega
  have pt:(J3 e m).1.s.put q.a=((Fx q.a (J3 e m).1.s).1,(Fx q.a (J3 e m).1.s).2,0):=by unfold E9.put;rw[A7 Q8]
  rw[pt]at p;obtain⟨a,a2⟩:=Qj q.a ra _ ok hc;obtain⟨u,u1,u2,u3⟩:=B4Z q.a ra _ ok hc;generalize Fx q.a (J3 e m).1.s=z at p a a2 u1;have pf:w1.put q.a=({ w1 with s:=z.1 },z.2):=by rw[p];unfold W.fails;rw[A7 (by simp)]
  rw[pf]at x1 x2;simp only at x1 x2;have xl:=z0q xe.lt a.U3.le;have inst:Tn σ z.1 [((J3 e m).2.1,z.2)]:=by intro w hw;rw[z6q.1 hw];refine⟨xl,a2,by rw[u1.eq];exact u3,?_⟩;rw[u1.eq,u2,qa,a.U3.I8 ok xe.lt]
  obtain⟨f,hf⟩:=Vw a.ok xl a2;obtain⟨i1,i2,i3⟩:=QU hσ f _ _ _ a.ok inst hf;have w2:({ w1 with s:=z.1 }:W).agree (J3 e m).2.1 z.2 e={ w1 with s:=(z.1.agree (J3 e m).2.1 z.2).1 }:=by unfold W.agree;rw[A7 (λg=>g e1)];simp only[i1];unfold W.fails;rw[A7 (by simp)]
  rw[w2]at x1;have zq:(U6 q m).err=0:=by rw[g1,x1];exact e1
  refine⟨zq,?_⟩;rw[(oM (Zh hr (by omega) hm) zq).2,x1,x2];show canon ((z.1.agree (J3 e m).2.1 z.2).1.I8 z.2).ty=_;rw[i3.2 z.2 a2 (by rw[u1.eq];exact u3),u1.eq,u2];unfold canon;have no:q.a.Gf=[]:=by
   rw[<- u2];have:∀t:NT,t.Cl->t.ty.Gf=[]:=by
    intro t;induction t using NT.ind with
    |h r k ts ih=>
      intro h;obtain⟨h1,h2⟩:=h.all;rw[NT.ty,Ty.Gf,A7 (by omega),zLq,NT.QG];have:∀us:List NT,(∀u∈us,u∈ts)->FE (us.map NT.ty)=[]:=by
       intro us;induction us with
       |nil=>intro _;rw[zAq,FE]
       |cons u us ihu=>intro hs;have hu:=hs u (z3q ..);rw[zbq,FE,ih u hu (h2 u hu),zLq];exact ihu λw hw=>hs w (z2q _ hw)
      exact this ts λu hu=>hu
   exact this u u3
  rw[B1u q.a (g:=λv=>v) (λv hv=>by rw[no]at hv;cases hv),B51]
end
end Go.Su

/-
 STATIC TYPES FOR THE VARIABLES of a type.
-/
namespace Go.Su
set_option linter.defProp false
mutual
def qX:Ty->Ty
 |.mk k n ts=>if k=5\/k=6 then .mk 2 0 []else .mk k n (stL ts)
def stL:List Ty->List Ty
 |[]=>[]
 |t::ts=>qX t::stL ts
end
theorem B3B:∀ts:List Ty,stL ts=ts.map qX
 |[]=>by rw[stL];rfl
 |t::ts=>by rw[stL,B3B ts];rfl
variable (t:Ty)
theorem B3C:qX t=if t.E8=5\/t.E8=6 then .mk 2 0 []else .mk t.E8 t.n (t.D5.map qX):=by cases t;rw[qX,B3B];rfl
variable (l:List Ty)
def cv(n:Int):Ty:=if l.length=0 then .mk 1 0 []else qX (l.getD (n.toNat % l.length) (.mk 1 0 []))
mutual
def Oc(l:List Ty):Ty->Ty
 |.mk k n ts=>if k=6 then cv l n else .mk k n (A5m l ts)
def A5m(l:List Ty):List Ty->List Ty
 |[]=>[]
 |t::ts=>Oc l t::A5m l ts
end
theorem A1V(l:List Ty):∀ts:List Ty,A5m l ts=ts.map (Oc l)
 |[]=>by rw[A5m];rfl
 |t::ts=>by rw[A5m,A1V l ts];rfl
theorem B19(t:Ty):Oc l t=if t.E8=6 then cv l t.n else .mk t.E8 t.n (t.D5.map (Oc l)):=by cases t;rw[Oc,A1V];rfl
structure B3S(t:Ty):Prop where
 right:t.right=true
 w5:t.CW 5=true
 w6:t.CW 6=true
def A9y{k:Int}(h:k=1\/k=2):B3S (.mk k 0 []):=by
 refine⟨?_,?_,?_⟩
 ·rw[Ty.right_eq];rcases h with rfl | rfl<;>simp[IB]
 ·rw[Ty.Ea];rcases h with rfl | rfl<;>simp
 ·rw[Ty.Ea];rcases h with rfl | rfl<;>simp
def B9a:t.right=true->B3S (qX t)/\(qX t).size<=t.size:=by
 induction t using Ty.ind with
 |h t ih=>
   intro hr;rw[B3C];split
   ·exact⟨A9y (.inr rfl),by rw[Ty.size_eq];simp;exact t.Sn⟩
   ·rename_i hk;have Oq:=hr;rw[Ty.right_eq]at hr;simp only[z8q,I4,zdq]at hr;obtain⟨⟨⟨⟨r1,r2⟩,r3⟩,r4⟩,r5⟩:=hr;have k:=λu (hu:u∈t.D5)=>ih u hu (r5 u hu);refine⟨⟨?_,?_,?_⟩,?_⟩
    ·rw[Ty.right_eq];simp only[z8q,I4,zdq];refine⟨⟨⟨⟨by rw[Ty.S9,zsq];exact r1,r2⟩,r3⟩,r4⟩,λx hx=>?_⟩;obtain⟨u,hu,rfl⟩:=zmq.1 hx;exact(k u hu).1.right
    ·rw[Ty.Ea];simp only[z8q,zdq];refine⟨by rw[y0q];exact decide_eq_false λg=>hk (.inl g),λx hx=>?_⟩;obtain⟨u,hu,rfl⟩:=zmq.1 hx;exact(k u hu).1.w5
    ·rw[Ty.Ea];simp only[z8q,zdq];refine⟨by rw[y0q];exact decide_eq_false λg=>hk (.inr g),λx hx=>?_⟩;obtain⟨u,hu,rfl⟩:=zmq.1 hx;exact(k u hu).1.w6
    ·rw[Ty.size_eq,Ty.size_eq t,Ty.S9,zqq];have:∀us:List Ty,(∀u∈us,u∈t.D5)->(us.map (Ty.size∘qX)).sum<=(us.map Ty.size).sum:=by
      intro us;induction us with
      |nil=>intro _;simp
      |cons u us ihu=>intro hs;have a:=(k u (hs u (z3q ..))).2;have b:=ihu λw hw=>hs w (z2q _ hw);simp only[zbq,zgq,Function.comp];omega
     have:=this t.D5 λu hu=>hu;omega
variable {l:List Ty}
def B5E(hl:∀t∈l,t.right=true/\t.size<=60)(n:Int):B3S (cv l n)/\(cv l n).size<=60:=by
 unfold cv;by_cases h0:l.length=0
 ·rw[C9 h0];exact⟨A9y (.inl rfl),by rw[Ty.size_eq];simp⟩
 ·rw[A7 h0];have hi:n.toNat % l.length<l.length:=Nat.mod_lt _ (by omega);have hm:l.getD (n.toNat % l.length) (.mk 1 0 [])∈l:=by rw[z5q,z4q hi];exact z9q hi
  obtain⟨a,b⟩:=hl _ hm;obtain⟨c,d⟩:=B9a _ a;exact⟨c,by omega⟩
def B2q:∀(us vs:List Ty),us.length=vs.length->(∀(i:Nat)(h:i<us.length)(h':i<vs.length),us[i].dn<=vs[i].size)->Ty.DK us<=(vs.map Ty.size).sum
 |[],vs,_,_=>by rw[Ty.DK];exact zhq _
 |u::us,[],h,_=>by simp at h
 |u::us,v::vs,h,g=>by
   have a:=g 0 (by simp) (by simp);have b:=B2q us vs (by simpa using h) λi h h'=>by have:=g (i+1) (by simp;omega) (by simp;omega);simpa using this
   rw[Ty.DK,zbq,zgq];simp only[zKq]at a;omega
def B9l:t.CW 5=true->t.dn=0:=by
 induction t using Ty.ind with
 |h t ih=>
   intro h;rw[Ty.Ea]at h;simp only[z8q,zdq]at h;have h1:t.E8≠5:=by have:=h.1;simpa using this
   rw[Ty.wC,A7 h1];have:∀us:List Ty,(∀u∈us,u∈t.D5)->Ty.DK us=0:=by
    intro us;induction us with
    |nil=>intro _;rw[Ty.DK]
    |cons u us ihu=>intro hs;have hu:=hs u (z3q ..);rw[Ty.DK,ih u hu (h.2 u hu),ihu λw hw=>hs w (z2q _ hw)]
   rw[this t.D5 λu hu=>hu]
def B7N(hl:∀t∈l,t.right=true/\t.size<=60)(t:Ty):t.right=true->(Oc l t).rc/\(Oc l t).size<=60 * t.size/\(Oc l t).dn<=t.size:=by
 induction t using Ty.ind with
 |h t ih=>
   intro hr;rw[B19];split
   ·obtain⟨a,b⟩:=B5E hl t.n;have:=t.Sn;exact⟨⟨a.right,a.w6⟩,by omega,by rw[B9l _ a.w5];exact zhq _⟩
   ·rename_i hk;rw[Ty.right_eq]at hr;simp only[z8q,I4,zdq]at hr;obtain⟨⟨⟨⟨r1,r2⟩,r3⟩,r4⟩,r5⟩:=hr;have k:=λu (hu:u∈t.D5)=>ih u hu (r5 u hu);refine⟨⟨?_,?_⟩,?_,?_⟩
    ·rw[Ty.right_eq];simp only[z8q,I4,zdq];refine⟨⟨⟨⟨by rw[Ty.S9,zsq];exact r1,r2⟩,r3⟩,r4⟩,λx hx=>?_⟩;obtain⟨u,hu,rfl⟩:=zmq.1 hx;exact(k u hu).1.1
    ·rw[Ty.Ea];simp only[z8q,zdq];refine⟨by rw[y0q];exact decide_eq_false hk,λx hx=>?_⟩;obtain⟨u,hu,rfl⟩:=zmq.1 hx;exact(k u hu).1.2
    ·rw[Ty.size_eq,Ty.size_eq t,Ty.S9,zqq];have:∀us:List Ty,(∀u∈us,u∈t.D5)->(us.map (Ty.size∘Oc l)).sum<=60 * (us.map Ty.size).sum:=by
      intro us;induction us with
      |nil=>intro _;simp
      |cons u us ihu=>intro hs;have a:=(k u (hs u (z3q ..))).2.1;have b:=ihu λw hw=>hs w (z2q _ hw);simp only[zbq,zgq,Function.comp];omega
     have:=this t.D5 λu hu=>hu;omega
    ·rw[Ty.wC,Ty.size_eq t];have:=B2q (t.D5.map (Oc l)) t.D5 (by simp) λi h h'=>by rw[zBq];exact(k _ (z9q h')).2.2
     simp only[Ty.S9]
     split<;>omega
def B7O(l:List Ty)(f:Int->Int)(t:NT):Oc l (t.ty.rn f)=t.sb λr=>cv l (f r):=by
 induction t using NT.ind with
 |h r k ts ih=>
   rw[NT.ty,Ty.rn,lF,NT.QG,Oc,A1V,NT.sb,lG];by_cases h:k=6
   ·subst h;simp
   ·have h':¬(k:Int)=6:=by omega
    rw[A7 h',A7 h',A7 h,A7 h,zqq,zqq];congr 1;exact ziq λt ht=>ih t ht
def B46{e:Ex}{mx D:Nat}(hr:e.right=true)(hs:e.size<=91)(hmx:mx<=65536)(hA:DC D e)(hD:1<=D)(hD2:D<=2 ^ 17):(J3 e mx).1.s.J6+10<2 ^ 62:=by
 obtain⟨c,⟨h1,h2⟩,h3⟩:=A2e e.size e hr;have hc:c<120000000000:=by
  rcases zvq c 120000000000 with g | g
  ·exact g
  ·exfalso;have a:120000000000 ^ 5<=c ^ 5:=zIq g 5;have b:4 ^ (e.size+1)<=4 ^ 92:=zFq (by omega) (by omega);have:(4:Nat) ^ 92<120000000000 ^ 5:=by decide
   omega
 let w0:W:=⟨EQ mx,U1,0,[],[],[]⟩
 have I:AF w0:=⟨N_ hmx,by simp[w0],⟨by simp[w0],by simp[w0]⟩,trivial⟩;obtain⟨-,b,-⟩:=h3 1 [] w0 D (c * D) (by omega) I (λx hx=>by cases hx) hD hA (λx hx=>by cases hx) (z1q _);have e0:w0.phi=5 * mx+5:=by simp only[W.phi,w0,E9.AZ,A9F,F5];simp[EQ]
 rw[e0]at b;have hx:(M5 e.size e 1 [] w0).1.s.J6<=(M5 e.size e 1 [] w0).1.phi:=by unfold W.phi;omega
 have e1:(J3 e mx).1=(M5 e.size e 1 [] w0).1:=rfl;rw[e1];have m1:c * D<=120000000000 * 2 ^ 17:=zNq (zPq hc) hD2;have m2:e.size * (c * D)<=91 * (120000000000 * 2 ^ 17):=zNq hs m1;omega
end Go.Su

/-
 THREE CLOSED RUNS: fun x -> x, at two limits; 1 + ().
-/
namespace Go.Su
set_option linter.defProp false
def xB:ByteArray:=⟨#[120]⟩
def Kv(k lo hi:Int)(s:ByteArray):Ex:=.mk k lo hi s AO 0 AO 0 (.mk 0 0 []) (.mk 0 0 []) [] []
def Mv:Ex:=.mk 9 0 0 xB AO 0 AO 0 (.mk 0 0 []) (.mk 0 0 []) [] [Kv 1 0 0 xB]
def IM:Ex:=.mk 16 0 0 AO AO 0 AO 1 (.mk 0 0 []) (.mk 0 0 []) [] [Kv 2 0 0 AO,Kv 5 4 6 AO]
variable (c:Nat)
def sId:E9:=⟨[⟨1,0,none,[]⟩,⟨2,0,none,[]⟩,⟨3,0,none,[]⟩,⟨4,0,none,[]⟩,⟨5,0,none,[]⟩,⟨6,1,none,[]⟩,⟨9,0,none,[5,5]⟩],100,c,0⟩
def B0V:Mv.size=2:=by simp[Ex.size_eq,Mv,Kv]
def B28:IM.size=3:=by simp[Ex.size_eq,IM,Kv]
theorem C0r:J3 Mv 100=(⟨sId 2,U1,0,[5],[],[.mk 5 [] [] []]⟩,6,.mk 6 [5] [] [.mk 5 [] [] []]):=by unfold J3;rw[B0V];rfl
def B47:U2 (sId c) 5 (.mk 5 6 []):=.mk (d:=⟨6,1,none,[]⟩) (.here rfl rfl) rfl rfl λi h _=>by cases h
def C0B:U2 (sId c) 6 (.mk 6 9 [.mk 5 6 [],.mk 5 6 []]):=.mk (d:=⟨9,0,none,[5,5]⟩) (.here rfl rfl) rfl rfl λi h h'=>match i,h,h' with
 |0,_,_=>B47 c
 |1,_,_=>B47 c
def A9P{S:E9}{n:Nat}{t:NT}(k:Nat)(hu:U2 S n t)(hk:t.BN (S.mx-S.cnt)=k)(hl:k<=S.mx-S.cnt):S.read n=({ S with cnt:=S.cnt+k },t.ty,0):=by unfold E9.read;rw[hu.eq];subst hk;exact A7 (y9q.2 hl)
theorem A7n:(sId c).mx-(sId c).cnt=100-c:=rfl
def B8n(h:c<100):(sId c).read 5=(sId (c+1),.mk 6 5 [],0) :=A9P 1 (B47 c) (by rw[NT.BN,NT.HY]) (by rw[A7n];omega)
def B8o(h:c<97):(sId c).read 6=(sId (c+3),.mk 9 0 [.mk 6 5 [],.mk 6 5 []],0) :=A9P 3 (C0B c) (by rw[A7n];simp only[NT.BN,NT.HY];omega) (by rw[A7n];omega)
def v5:(Ty.mk 6 5 []).vars=[5]:=by simp[Ty.vars,Ty.Bw]
def v55:(Ty.mk 9 0 [.mk 6 5 [],.mk 6 5 []]).vars=[5]:=by simp[Ty.vars,Ty.Bw]
def C0q:(U6 Mv 100).err=0/\(U6 Mv 100).cnt=7/\(U6 Mv 100).ty=.mk 9 0 [.mk 6 0 [],.mk 6 0 []]/\(U6 Mv 100).dv.types.length=1:=by unfold U6;rw[C0r];simp[AY,K_,BP,C_,Az,W.fails,B8n,B8o,Hm,ZM,VD,Da,nY,ZK,v5,v55];exact⟨rfl,rfl⟩
theorem B9E:J3 Mv 1=(⟨⟨[⟨1,0,none,[]⟩,⟨2,0,none,[]⟩,⟨3,0,none,[]⟩,⟨4,0,none,[]⟩,⟨5,0,none,[]⟩,⟨6,1,none,[]⟩],1,1,0⟩,U1,7,[5],[],[.mk 5 [] [] []]⟩,0,.mk 0 [5] [] [.mk 5 [] [] []]):=by unfold J3;rw[B0V];rfl
def B9D:(U6 Mv 1).err=7:=by unfold U6;rw[B9E];simp[AY,BP,Az,C_]
def A6W{m j:Nat}(hm:m<=65536)(hj:j<5):(EQ m).root j=j:=by have ok:=N_ hm;have g:=ok.base j hj;exact(X6.here g rfl).eq (ok.wf j (by have:=ok.five;omega))
def A6V{m j:Nat}(hm:m<=65536)(hj:j<5):(EQ m).F9 j=j+1:=CB ((N_ hm).base j hj)
def B6b:(EQ 100).agree 0 0=(EQ 100,0,0,0):=by have ok:=N_ (mx:=100) (by omega);have f5:=ok.five;refine Zq (f:=2) ok (by omega) (by omega) ?_;rw[X5,C9 rfl,E9.P7]
def B6c:(EQ 100).agree 3 0=(EQ 100,4,1,4):=by have ok:=N_ (mx:=100) (by omega);have f5:=ok.five;refine Zq (f:=2) ok (by omega) (by omega) ?_;rw[X5];simp[A6W (m:=100) (j:=3) (by omega) (by omega),A6W (m:=100) (j:=0) (by omega) (by omega),A6V (m:=100) (j:=3) (by omega) (by omega),A6V (m:=100) (j:=0) (by omega) (by omega)]
def B8L:(J3 IM 100).1.err=4/\(J3 IM 100).1.bad=⟨4,6,4,4,1,AO⟩:=by unfold J3;rw[B28];simp[M5,T9,Ho,L6,IM,Kv,W.agree,W.fails,B6b,B6c]
def B60{e:Ex}{m:Nat}(h:(J3 e m).1.err≠0):(U6 e m).err=(J3 e m).1.err/\(U6 e m).bad=(J3 e m).1.bad:=by
 unfold U6;simp only;rw[A1r h];have z:(BP (J3 e m).2.2 (J3 e m).1).1=(J3 e m).1:=by
  cases(J3 e m).2.2 with
  |mk n ts vs ks=>rw[BP,vC h];simp only;rw[u_ h]
 rw[z,C9 h];exact⟨rfl,rfl⟩
def B8K:(U6 IM 100).err=4/\(U6 IM 100).bad=⟨4,6,4,4,1,AO⟩:=by obtain⟨a,c⟩:=B8L;obtain⟨x,y⟩:=B60 (e:=IM) (m:=100) (by omega);exact⟨x.trans a,y.trans c⟩
end Go.Su
