/-
  Parts of the proof, merged: SuN4, SuN5, SuN6, SuN7, SuN8, SuN9, SuN10, SuN11, SuN12, SuN13, SuN14, SuN15, SuN16, SuN17, SuN18, SuN19, SuN20, SuN21, SuN22, SuN23, SuN24, SuN25, SuN26.
-/
import Derived.Test.YtfcklgngoefgmaaGreatQ3
set_option linter.unusedVariables false
set_option linter.unusedSimpArgs false
set_option linter.unusedSectionVars false
/-
 STORES: links, what a variable becomes; agreement comes to an end.
-/
open Bool renaming and_eq_true → zbq
open List renaming mem_cons_of_mem → z2q, getElem?_eq_getElem → z3q, mem_cons_self → z4q, mem_singleton → z5q, getD_eq_getElem?_getD → z6q, mem_append → z8q, getElem_mem → z9q, length_eq_zero_iff → zaq, mem_cons → zdq, map_cons → zeq, sum_cons → zfq, mem_iff_getElem → zkq, of_mem_zip → zlq, not_mem_nil → zmq, mem_of_find?_eq_some → znq, length_append → zoq, length_cons → zqq, mem_filter → zsq, cons_append → ztq, zip_cons_cons → zuq, getElem_zipWith → zvq, length_zipWith → zwq, map_append → zxq, mem_of_mem_tail → zzq, all_eq_true → zBq, map_congr_left → zCq, getElem_of_mem → zDq, getElem_cons_zero → zGq, length_filter_le → zHq, nil_append → zKq, map_nil → zOq, nodup_nil → zPq, zip_nil_left → zRq, reverse_cons → zTq, getElem_map → zUq, countP_cons → zVq, sum_nil → zWq, length_nil → zZq, length_map → y0q, find?_cons → y1q
open Nat renaming lt_of_lt_of_le → z0q, le_refl → z1q, le_trans → z7q, add_mul → zcq, le_add_right → zgq, zero_le → zhq, le_of_eq → ziq, le_max_right → zjq, le_max_left → zpq, le_mul_of_pos_left → zrq, pow_le_pow_right → zyq, pow_le_pow_left → zAq, le_of_lt → zEq, min_le_right → zFq, lt_or_ge → zIq, mul_le_mul_right → zJq, mul_le_mul → zLq, add_le_add → zMq, le_succ → zNq, not_lt → zSq, le_zero → zXq, mul_pow → zYq
open Option renaming map_some → zQq
namespace Go.Su
set_option linter.defProp false
structure Y4(S S':E9):Prop where
 le:S.l.length<=S'.l.length
 mx:S'.mx=S.mx
 cnt:S.cnt<=S'.cnt
 J7:S.J7<=S'.J7
variable (S:E9)
def Y4.refl:Y4 S S:=⟨z1q _,rfl,z1q _,z1q _⟩
def Y4.trans{S T U:E9}(h:Y4 S T)(k:Y4 T U):Y4 S U:=⟨z7q h.le k.le,k.mx.trans h.mx,z7q h.cnt k.cnt,z7q h.J7 k.J7⟩
def Y4.tick:Y4 S S.tick:=⟨z1q _,rfl,z1q _,zNq _⟩
def Y4.lower(n A8:Nat):Y4 S (S.lower n A8):=⟨ziq (NU ..).symm,rfl,z1q _,zNq _⟩
def Md(d:Nd):Bool:=d.E8==6&&d.link.isNone
def E9.uv:Nat:=S.l.countP Md
def A7n{l l':List Nd}(hl:l'.length=l.length)(h:∀(n:Nat)(d d':Nd),l[n]?=some d->l'[n]?=some d'->Md d'=Md d):l'.countP Md=l.countP Md:=by
 have:l'.map Md=l.map Md:=by
  refine List.ext_getElem (by simp[hl]) λi a c=>?_;rw[zUq,zUq];have a:i<l'.length:=by simpa using a
  have c:i<l.length:=by simpa using c
  exact h i _ _ (z3q c) (z3q a)
 have e:∀l:List Nd,l.countP Md=(l.map Md).countP id:=λl=>by rw[List.countP_map];rfl
 rw[e,e,this]
def zu{f:Nd->Nd}:∀{l:List Nd}{r:Nat}{d:Nd},l[r]?=some d->Md d=true->Md (f d)=false->(l.modify r f).countP Md+1=l.countP Md
 |[],r,d,h,_,_=>by simp at h
 |e::l,0,d,h,h1,h2=>by simp only[List.getElem?_cons_zero,D8]at h;subst h;simp[List.modify,h1,h2]
 |e::l,r+1,d,h,h1,h2=>by rw[List.getElem?_cons_succ]at h;have:=zu (l:=l) h h1 h2;rw[List.modify_succ_cons,zVq,zVq];omega
theorem B5N:S.tick.uv=S.uv:=rfl
theorem zG(n A8:Nat):(S.lower n A8).uv=S.uv:=A7n (NU ..) λk d d' h h'=>by simp only[E9.lower]at h';rw[VG,h]at h';simp only[zQq,D8]at h';subst h';split<;>rfl
variable {S:E9}
def B3Y{r t:Nat}{d:Nd}(h:S.l[r]?=some d)(h6:d.E8=6)(h0:d.link=none):(S.BM r t).uv+1=S.uv :=zu h (by simp[Md,h6,h0]) (by simp[Md])
structure B5R(S S':E9)(e:Nat):Prop where
 ok:S'.Ok
 len:S'.l.length=S.l.length
 mx:S'.mx=S.mx
 cnt:S'.cnt=S.cnt
 J7:S.J7<=S'.J7
 B3y:S'.J7<=S.J7+2
 uv:e=0->S'.uv<S.uv
 at_:∀n,S'.F9 n=S.F9 n/\S'.I5 n=S.I5 n
def B2C(S:E9)(m A8 n:Nat):(S.lower m A8).F9 n=S.F9 n/\(S.lower m A8).I5 n=S.I5 n:=by
 simp only[E9.F9,E9.I5,E9.lower];rw[VG];cases S.l[n]? with
 |none=>exact⟨rfl,rfl⟩
 |some d=>simp only[zQq];split<;>exact⟨rfl,rfl⟩
def B2B(S:E9)(r t n:Nat):(S.BM r t).F9 n=S.F9 n/\(S.BM r t).I5 n=S.I5 n:=by
 simp only[E9.F9,E9.I5];rw[JN];cases S.l[n]? with
 |none=>exact⟨rfl,rfl⟩
 |some d=>simp only[zQq];split<;>exact⟨rfl,rfl⟩
variable {n:Nat}
def Xx{v:Nat}(ok:S.Ok)(hv:v<S.l.length)(hn:n<S.l.length)(h6:S.F9 (S.root v)=6)(hw:S.root v∉S.roots n):(S.tick.BM (S.root v) (S.root n)).Ok:=by obtain⟨d,d1,d2,-,-,d5,-⟩:=ok.nd hv;exact ok.tick.BM (S:=S.tick) d1 d2 (by rw[d5,h6]) (ok.L6 hn).self.tick λhx=>hw ((ok.CP hn).2 hx)
def Zh(ok:S.Ok){v:Nat}(hv:v<S.l.length)(hn:n<S.l.length):B5R S (S.link v n).1 (S.link v n).2:=by
 unfold E9.link;split
 ·exact⟨ok,rfl,rfl,rfl,z1q _,by simp only;omega,λh=>by simp at h,λn=>⟨rfl,rfl⟩⟩
 ·rename_i h;split
  ·exact⟨ok.tick,rfl,rfl,rfl,zNq _,by simp only[E9.tick];omega,λh=>by simp at h,λn=>⟨rfl,rfl⟩⟩
  ·rename_i hw;have h6:S.F9 (S.root v)=6:=Classical.not_not.1 λg=>h (.inl g);have ok2:=Xx ok hv hn h6 hw;obtain⟨d,d1,d2,-,-,d5,d6⟩:=ok.nd hv;refine⟨ok2.lower _ _,?_,rfl,rfl,?_,?_,λ_=>?_,λm=>?_⟩
   ·simp[E9.lower,NU,E9.BM,E9.tick]
   ·simp only[E9.lower,E9.BM,E9.tick];omega
   ·simp only[E9.lower,E9.BM,E9.tick];omega
   ·simp only
    rw[zG];have:=B3Y (S:=S.tick) (t:=S.root n) d1 (by rw[d5,h6]) d2;rw[B5N]at this;omega
   ·simp only
    obtain⟨a1,a2⟩:=B2C (S.tick.BM (S.root v) (S.root n)) (S.root n) (S.X8 (S.root v)) m;obtain⟨c1,c2⟩:=B2B S.tick (S.root v) (S.root n) m;exact⟨a1.trans c1,a2.trans c2⟩
def TW(ok:S.Ok){v x:Nat}(hv:v<S.l.length)(hn:n<S.l.length)(hx:x<S.l.length)(hne:S.root x≠S.root v):(S.link v n).1.root x=S.root x:=by
 unfold E9.link;split
 ·rfl
 ·rename_i h;split
  ·exact(ok.L6 hx).tick.Hl
  ·rename_i hw;have h6:S.F9 (S.root v)=6:=Classical.not_not.1 λg=>h (.inl g);have ok2:=Xx ok hv hn h6 hw;obtain⟨d,d1,d2,-,-,d5,d6⟩:=ok.nd hv;have h1:X5 S.tick x (S.root x):=(ok.root hx).like (Z0.tick S);have h2:X5 (S.tick.BM (S.root v) (S.root n)) x (S.root x):=X5.link (S:=S.tick) d1 d2 h1 hne;have h3:=h2.like (Z0.lower _ (S.root n) (S.X8 (S.root v)));have ok3:=ok2.lower (S.root n) (S.X8 (S.root v));exact h3.eq ⟨_,ok3.L6 h3.lt⟩
def E9.Ok.A8(ok:S.Ok)(hn:n<S.l.length):S.X8 n<2 ^ 31:=by have:=z3q hn;rw[nG this];exact(ok.ki _ _ this).2.2.2.1
def E9.Ok.NS(ok:S.Ok){x:Nat}(hn:n<S.l.length)(hx:x∈S.I5 (S.root n)):x<S.l.length:=by obtain⟨d,d1,d2,d3,d4,d5⟩:=(ok.L6 hn).nd;have hx:x∈S.I5 (S.L6 n).r:=hx;rw[Du d1]at hx;obtain⟨j,hj,rfl⟩:=zkq.1 hx;exact(d5 j hj (by omega)).lt
def E9.Ok.YP(ok:S.Ok)(hn:n<S.l.length):(S.I5 n).length=Nu (S.F9 n):=by have:=z3q hn;rw[Du this,Dv this];exact(ok.ki _ _ this).1
def E9.Ok.knd(ok:S.Ok)(hn:n<S.l.length):1<=S.F9 n/\S.F9 n<=9/\(S.F9 n<=5->n+1=S.F9 n):=by have:=z3q hn;rw[Dv this];have:=ok.ki _ _ this;exact⟨this.2.1,this.2.2.1,this.2.2.2.2⟩
def Ms(ok:S.Ok){A8:Nat}(hl:A8<2 ^ 31):(S.var A8).1.Ok/\DC S (S.var A8).1/\(S.var A8).1.J7=S.J7/\(S.var A8).2.1<(S.var A8).1.l.length/\((S.var A8).2.2=0->(S.var A8).1.cnt=S.cnt+1)/\S.cnt<=(S.var A8).1.cnt:=by
 unfold E9.var;have:=ok.cm;have:=ok.five;split
 ·exact⟨ok,DC.refl S,rfl,by simp only;omega,λh=>by simp at h,z1q _⟩
 ·exact⟨ok.add (by omega) rfl (by omega) (by omega) hl (by simp),DC.add _ _,rfl,by simp[E9.add],λ_=>rfl,by simp[E9.add]⟩
def GK(ok:S.Ok){k x y:Nat}(hk:k=7\/k=8\/k=9)(hx:x<S.l.length)(hy:k≠8->y<S.l.length):(S.make k x y).1.Ok/\DC S (S.make k x y).1/\(S.make k x y).1.J7=S.J7/\(S.make k x y).2.1<(S.make k x y).1.l.length/\((S.make k x y).2.2=0->(S.make k x y).1.cnt=S.cnt+1)/\S.cnt<=(S.make k x y).1.cnt:=by
 unfold E9.make;have:=ok.cm;have:=ok.five;split
 ·exact⟨ok,DC.refl S,rfl,by simp only;omega,λh=>by simp at h,z1q _⟩
 ·refine⟨ok.add (by omega) ?_ (by omega) (by omega) (by omega) ?_,DC.add _ _,rfl,by simp[E9.add],λ_=>rfl,by simp[E9.add]⟩
  ·rcases hk with rfl | rfl | rfl<;>rfl
  ·intro z hz;split at hz
   ·rw[z5q.1 hz];exact hx
   ·rename_i h8;simp only[zdq,zmq,or_false]at hz;rcases hz with rfl | rfl
    ·exact hx
    ·exact hy h8
def ET{A8:Nat}(hl:A8<2 ^ 31):∀(k:Nat)(S:E9),S.Ok->(E9.fresh A8 k S).1.Ok/\DC S (E9.fresh A8 k S).1/\(E9.fresh A8 k S).1.J7=S.J7/\S.cnt<=(E9.fresh A8 k S).1.cnt/\(∀x∈(E9.fresh A8 k S).2.1,x<(E9.fresh A8 k S).1.l.length)/\((E9.fresh A8 k S).2.2=0->(E9.fresh A8 k S).2.1.length=k)
 |0,S,ok=>⟨ok,DC.refl S,rfl,z1q _,by simp[E9.fresh],λ_=>rfl⟩
 |k+1,S,ok=>by
   obtain⟨a1,a2,a3,a4,a5,a6⟩:=Ms ok hl;rw[E9.fresh];split
   ·obtain⟨c1,c2,c3,c4,c5,c6⟩:=ET hl k _ a1;refine⟨c1,a2.trans c2,c3.trans a3,z7q a6 c4,λx hx=>?_,λh=>by simp[c6 h]⟩;rcases zdq.1 hx with rfl | hx
    ·exact z0q a4 c2.le
    ·exact c5 x hx
   ·exact⟨a1,a2,a3,a6,by simp,λh=>by rename_i g;exact absurd h g⟩
def DC.root{T:E9}(g:DC S T)(ok:S.Ok)(hn:n<S.l.length):T.root n=S.root n:=((ok.L6 hn).like g.like).Hl
def Z0.at_{T:E9}(L:Z0 S T)(hn:n<S.l.length):T.F9 n=S.F9 n/\T.I5 n=S.I5 n:=by have:=z3q hn;obtain⟨d',a,b,-,c⟩:=L _ _ this;rw[Dv this,Du this,Dv a,Du a];exact⟨b,c⟩
structure B7B(S:E9)(w:Nat)(q:E9×Option Nat×Nat):Prop where
 ok:q.1.Ok
 ext:Y4 S q.1
 J7:q.1.J7<=S.J7+5
 none:q.2.2=0->q.2.1=none->q.1.cnt=S.cnt/\q.1.uv<S.uv
 some:∀m,q.2.2=0->q.2.1=some m->m<q.1.l.length/\S.cnt<q.1.cnt/\q.1.F9 (q.1.root m)=q.1.F9 (q.1.root w)/\q.1.F9 (q.1.root w)=S.F9 w
def Gx(ok:S.Ok){v w:Nat}(hv:v<S.l.length)(hw:w<S.l.length)(rv:S.root v=v)(rw_:S.root w=w)(hne:v≠w)(xE:w≠4)(h6:S.F9 v=6):B7B S w (S.become v w):=by
 unfold E9.become;split
 ·have L:=Zh ok hv hw;exact⟨L.ok,⟨ziq L.len.symm,L.mx,ziq L.cnt.symm,L.J7⟩,by have:=L.B3y;simp only;omega,λh _=>⟨L.cnt,L.uv h⟩,λm _ h=>by cases h⟩
 ·rename_i k6;split
  ·have L:=Zh ok.tick (show v<S.tick.l.length from hv) (show w<S.tick.l.length from hw);refine⟨L.ok,⟨ziq L.len.symm,L.mx,ziq L.cnt.symm,?_⟩,?_,λh _=>⟨L.cnt,L.uv h⟩,λm _ h=>by cases h⟩
   ·have:=L.J7;simp only[E9.tick]at this ⊢;omega
   ·have:=L.B3y;simp only[E9.tick]at this ⊢;omega
  ·rename_i R6;have R6:4∈S.roots w:=Classical.not_not.1 R6;split
   ·refine⟨ok.tick.tick,(Y4.tick S).trans (Y4.tick _),by simp only[E9.tick];omega,λh=>by simp at h,λm h=>by simp at h⟩
   ·rename_i MZ;have PN:=ok.tick.tick;obtain⟨f1,f2,f3,f4,f5,f6⟩:=ET (ok.A8 hv) (S.I5 w).length _ PN;simp only;generalize E9.fresh (S.X8 v) (S.I5 w).length S.tick.tick=q at f1 f2 f3 f4 f5 f6 ⊢;have e1:Y4 S q.1:=⟨f2.le,f2.mx,f4,by rw[f3];simp only[E9.tick];omega⟩;have er:q.1.J7=S.J7+2:=by rw[f3];rfl
    have e0:q.1.cnt<=q.1.cnt:=z1q _;split
    ·rename_i g;exact⟨f1,e1,by simp only;omega,λh=>absurd h g,λm h=>absurd h g⟩
    ·rename_i g;have g0:q.2.2=0:=Classical.not_not.1 g;have ql:=f6 g0;have kw:=ok.knd hw;have kn:=ok.YP hw;have w4:S.F9 w≠5->S.F9 w=7\/S.F9 w=8\/S.F9 w=9\/S.F9 w<=4:=λh=>by omega
     by_cases A4n:S.F9 w<=5
     ·have h0:(S.I5 w).length=0:=by rw[kn];unfold Nu;rw[A7 (by omega),A7 (by omega)]
      have hu:=ok.L6 hw;obtain⟨d,d1,-,d3,d4,-⟩:=hu.nd;have hr:(S.L6 w).r=w:=rw_;rw[hr]at d1;have hk:(S.L6 w).D6=[]:=by
       have:d.D6.length=0:=by rw[<- Du d1];exact h0
       exact zaq.1 (by omega)
      have h4:=(ok.CP hw).1 R6;rcases NT.Au.1 h4 with e | ⟨u,hu,-⟩
      ·exact absurd (show w=4 by rw[<- hr];exact e.symm) xE
      ·rw[hk]at hu;cases hu
     ·have Vr:S.F9 w=7\/S.F9 w=8\/S.F9 w=9:=by omega
      have p0:q.2.1.getD 0 0<q.1.l.length:=by
       have:0<q.2.1.length:=by rw[ql,kn];unfold Nu;split<;>(try split)<;>omega
       rw[z6q,z3q this];exact f5 _ (z9q this)
      have p1:S.F9 w≠8->q.2.1.getD 1 0<q.1.l.length:=by
       intro h8;have:1<q.2.1.length:=by rw[ql,kn];unfold Nu;rw[A7 h8,C8 (by omega)];omega
       rw[z6q,z3q this];exact f5 _ (z9q this)
      obtain⟨m1,m2,m3,m4,m5,m6⟩:=GK f1 Vr p0 p1;have mm:((q.1.make (S.F9 w) (q.2.1.getD 0 0) (q.2.1.getD 1 0)).2.2=0->(q.1.make (S.F9 w) (q.2.1.getD 0 0) (q.2.1.getD 1 0)).2.1=q.1.l.length/\(q.1.make (S.F9 w) (q.2.1.getD 0 0) (q.2.1.getD 1 0)).1.l[q.1.l.length]?=Option.some ⟨S.F9 w,0,Option.none,if S.F9 w=8 then[q.2.1.getD 0 0]else[q.2.1.getD 0 0,q.2.1.getD 1 0]⟩):=by
       unfold E9.make;split
       ·intro h;simp at h
       ·intro _;exact⟨rfl,by simp[E9.add]⟩
      generalize q.1.make (S.F9 w) (q.2.1.getD 0 0) (q.2.1.getD 1 0)=z at m1 m2 m3 m4 m5 m6 mm ⊢;have ez:Y4 S z.1:=e1.trans ⟨m2.le,m2.mx,m6,m2.J7⟩;split
      ·rename_i gz;exact⟨m1,ez,by simp only;omega,λh=>absurd h gz,λm h=>absurd h gz⟩
      ·rename_i gz;have z0:z.2.2=0:=Classical.not_not.1 gz;obtain⟨z1,z2⟩:=mm z0;have hvz:v<z.1.l.length:=z0q hv ez.le;have L:=Zh m1 hvz m4;refine⟨L.ok,ez.trans ⟨ziq L.len.symm,L.mx,ziq L.cnt.symm,L.J7⟩,by have:=L.B3y;simp only;omega,λ_ h=>(by cases h),λm h0 hm=>?_⟩;simp only[D8]at hm;subst hm;have c5:=m5 z0;have rm:z.1.root z.2.1=z.2.1:=by rw[z1];exact(X5.here z2 rfl).eq (m1.wf _ (by rw[<- z1];exact m4))
       have g1:DC S.tick.tick z.1:=f2.trans m2;have hv2:v<S.tick.tick.l.length:=hv;have hw2:w<S.tick.tick.l.length:=hw;have r2:∀x,x<S.l.length->S.tick.tick.root x=S.root x:=λx hx=>(ok.L6 hx).tick.tick.Hl;have rvz:z.1.root v=v:=by rw[g1.root PN hv2,r2 v hv,rv]
       have rwz:z.1.root w=w:=by rw[g1.root PN hw2,r2 w hw,rw_]
       have zv:z.2.1≠v:=by rw[z1];have:=e1.le;omega
       have a1:=TW m1 hvz m4 m4 (by rw[rm,rvz];exact zv);have hwz:w<z.1.l.length:=z0q hw ez.le;have a2:=TW m1 hvz m4 hwz (by rw[rwz,rvz];exact Ne.symm hne);rw[a1,a2,rm,rwz,(L.at_ _).1,(L.at_ _).1,z1,Dv z2];have:=(Z0.at_ g1.like hw2).1;rw[this];have n1:=L.len;have n2:=L.cnt;rw[z1]at n1 n2 m4;refine⟨by rw[n1];exact m4,?_,rfl,rfl⟩;simp only;rw[n2,c5];have:=e1.cnt;omega
noncomputable def wt(S:E9)(l:List (Nat×Nat)):Nat:=(l.map λp=>(S.L6 p.1).big).sum
def B5O{T:E9}(g:Z0 S T)(ok:S.Ok){l:List (Nat×Nat)}(hl:∀p∈l,p.1<S.l.length):wt T l=wt S l:=by unfold wt;congr 1;refine zCq λp hp=>?_;rw[((ok.L6 (hl p hp)).like g).eq]
def B4E(t:NT):0<t.big:=by cases t;rw[NT.big];omega
def B2p{S:E9}(ok:S.Ok):∀(ks:List Nat)(ts:List NT)(js:List Nat),ks.length=ts.length->(∀(i:Nat)(h:i<ks.length)(h':i<ts.length),U8 S ks[i] ts[i])->wt S (ks.zip js)<=NT.xu ts
 |[],_,js,_,_=>by simp[wt]
 |k::ks,[],js,h,_=>by simp at h
 |k::ks,t::ts,[],_,_=>by simp[wt]
 |k::ks,t::ts,j::js,h,hu=>by
   have h1:=hu 0 (by simp) (by simp);simp only[zGq]at h1;have h2:=B2p ok ks ts js (by simpa using h) λi a c=>by have:=hu (i+1) (by simp;omega) (by simp;omega);simpa using this
   rw[NT.xu];simp only[wt,zuq,zeq,zfq,h1.eq]at h2 ⊢;omega
theorem Y7(f:Nat)(S:E9)(p:Nat×Nat)(rest:List (Nat×Nat)):E9.O9 (f+1) S (p::rest) =
 if S.root p.1=S.root p.2 then E9.O9 f S rest
 else if S.root p.1=4 then E9.O9 f (S.lower (S.root p.2) 0) rest
 else if S.root p.2=4 then E9.O9 f (S.lower (S.root p.1) 0) rest
 else if S.F9 (S.root p.1)=6 then
  if (S.become (S.root p.1) (S.root p.2)).2.2≠0 then some ((S.become (S.root p.1) (S.root p.2)).1,0,0,(S.become (S.root p.1) (S.root p.2)).2.2)
  else match (S.become (S.root p.1) (S.root p.2)).2.1 with
   |none=>E9.O9 f (S.become (S.root p.1) (S.root p.2)).1 rest
   |some m=>E9.O9 f (S.become (S.root p.1) (S.root p.2)).1 (((S.become (S.root p.1) (S.root p.2)).1.I5 ((S.become (S.root p.1) (S.root p.2)).1.root m)).zip ((S.become (S.root p.1) (S.root p.2)).1.I5 ((S.become (S.root p.1) (S.root p.2)).1.root (S.root p.2)))++rest)
 else if S.F9 (S.root p.2)=6 then
  if (S.become (S.root p.2) (S.root p.1)).2.2≠0 then some ((S.become (S.root p.2) (S.root p.1)).1,0,0,(S.become (S.root p.2) (S.root p.1)).2.2)
  else match (S.become (S.root p.2) (S.root p.1)).2.1 with
   |none=>E9.O9 f (S.become (S.root p.2) (S.root p.1)).1 rest
   |some m=>E9.O9 f (S.become (S.root p.2) (S.root p.1)).1 (((S.become (S.root p.2) (S.root p.1)).1.I5 ((S.become (S.root p.2) (S.root p.1)).1.root (S.root p.1))).zip ((S.become (S.root p.2) (S.root p.1)).1.I5 ((S.become (S.root p.2) (S.root p.1)).1.root m))++rest)
 else if S.F9 (S.root p.1)≠S.F9 (S.root p.2)then some (S,S.F9 (S.root p.1),S.F9 (S.root p.2),4)
 else E9.O9 f S ((S.I5 (S.root p.1)).zip (S.I5 (S.root p.2))++rest):=by rw[E9.O9];rfl
end Go.Su

/-
 AGREEMENT, step by step; how high a node is.
-/
namespace Go.Su
set_option linter.defProp false
structure BH(S F:E9):Prop where
 le:S.l.length<=F.l.length
 at_:∀n,n<S.l.length->F.F9 n=S.F9 n/\F.I5 n=S.I5 n
 root:∀n,n<S.l.length->S.F9 (S.root n)≠6->F.root n=S.root n
 same:∀n,n<S.l.length->F.root (S.root n)=F.root n
variable {S:E9}
def BH.refl(ok:S.Ok):BH S S:=⟨z1q _,λ_ _=>⟨rfl,rfl⟩,λ_ _ _=>rfl,λn h=>ok.rr h⟩
variable {F:E9}
def BH.trans{T:E9}(ok:S.Ok)(h:BH S T)(k:BH T F):BH S F where
 le:=z7q h.le k.le
 at_ n hn:=by have a:=h.at_ n hn;have c:=k.at_ n (z0q hn h.le);exact⟨c.1.trans a.1,c.2.trans a.2⟩
 root n hn h6:=by have a:=h.root n hn h6;rw[k.root n (z0q hn h.le) (by rw[a,(h.at_ _ (ok.Hg hn)).1];exact h6),a]
 same n hn:=by have r:=z0q (ok.Hg hn) h.le;rw[<- k.same _ r,h.same n hn,k.same _ (z0q hn h.le)]
def BH.like{T:E9}(ok:S.Ok)(L:Z0 S T)(le:S.l.length<=T.l.length):BH S T :=⟨le,λn hn=>L.at_ hn,λn hn _=>((ok.L6 hn).like L).Hl,λn hn=>by have:T.root (S.L6 n).r=(S.L6 n).r:=((ok.L6 hn).self.like L).Hl;rw[((ok.L6 hn).like L).Hl];exact this⟩
def BH.U2{T:E9}(ok:S.Ok)(g:DC S T):BH S T:=.like ok g.like g.le
def nH(ok:S.Ok){v n x:Nat}(hv:v<S.l.length)(hn:n<S.l.length)(hx:x<S.l.length)(he:S.root x=S.root v)(h0:(S.link v n).2=0):(S.link v n).1.root x=S.root n:=by
 unfold E9.link at h0 ⊢;split
 ·rename_i h;rw[C8 h]at h0;simp at h0
 ·rename_i h;rw[A7 h]at h0;split
  ·rename_i hw;rw[C8 hw]at h0;simp at h0
  ·rename_i hw;have h6:S.F9 (S.root v)=6:=Classical.not_not.1 λg=>h (.inl g);have ok2:=Xx ok hv hn h6 hw;obtain⟨d,d1,d2,-,-,d5,d6⟩:=ok.nd hv;have h2:=X5.B4j (S:=S.tick) (to:=S.root n) d1 d2 (ok.L6 hn).self.tick (λg=>hw ((ok.CP hn).2 g)) ((ok.root hx).like (Z0.tick S)) he;have h3:=h2.like (Z0.lower _ (S.root n) (S.X8 (S.root v)));have ok3:=ok2.lower (S.root n) (S.X8 (S.root v));exact h3.eq ⟨_,ok3.L6 h3.lt⟩
def BH.link(ok:S.Ok){v n:Nat}(hv:v<S.l.length)(hn:n<S.l.length)(h6:S.F9 (S.root v)=6):BH S (S.link v n).1:=by
 have L:=Zh ok hv hn;refine⟨ziq L.len.symm,λx _=>L.at_ x,λx hx hk=>TW ok hv hn hx λe=>hk (by rw[e];exact h6),λx hx=>?_⟩;by_cases e:S.root x=S.root v
 ·by_cases h0:(S.link v n).2=0
  ·rw[nH ok hv hn hx e h0,nH ok hv hn (ok.Hg hx) (by rw[ok.rr hx];exact e) h0]
  ·have:(S.link v n).1=S\/(S.link v n).1=S.tick:=by
    unfold E9.link at h0 ⊢;split
    ·exact .inl rfl
    ·rename_i h;rw[A7 h]at h0;split
     ·exact .inr rfl
     ·rename_i h2;rw[A7 h2]at h0;exact absurd rfl h0
   rcases this with g | g
   ·rw[g];exact ok.rr hx
   ·rw[g];exact(BH.like ok (Z0.tick S) (z1q _)).same x hx
 ·rw[TW ok hv hn hx e,TW ok hv hn (ok.Hg hx) (by rw[ok.rr hx];exact e),ok.rr hx]
def BH.become(ok:S.Ok){v w:Nat}(hv:v<S.l.length)(hw:w<S.l.length)(rv:S.root v=v)(rw_:S.root w=w)(hne:v≠w)(xE:w≠4)(h6:S.F9 v=6):BH S (S.become v w).1/\∀m,(S.become v w).2.2=0->(S.become v w).2.1=some m->(S.become v w).1.root v=(S.become v w).1.root m:=by
 have h6':S.F9 (S.root v)=6:=by rw[rv];exact h6
 have B:=Gx ok hv hw rv rw_ hne xE h6;unfold E9.become at B ⊢;split
 ·exact⟨BH.link ok hv hw h6',λm _ h=>by cases h⟩
 ·rename_i k6;rw[A7 k6]at B;have t1:=BH.like ok (Z0.tick S) (z1q _);split
  ·refine⟨t1.trans ok (BH.link ok.tick hv hw ?_),λm _ h=>by cases h⟩;have:S.tick.root v=S.root v:=(ok.L6 hv).tick.Hl;rw[this];exact h6'
  ·rename_i R6;rw[A7 R6]at B;split
   ·exact⟨t1.trans ok (BH.like ok.tick (Z0.tick _) (z1q _)),λm h=>by simp at h⟩
   ·rename_i MZ;rw[A7 MZ]at B;have PN:=ok.tick.tick;have t2:=t1.trans ok (BH.like ok.tick (Z0.tick _) (z1q _));obtain⟨f1,f2,f3,f4,f5,f6⟩:=ET (ok.A8 hv) (S.I5 w).length _ PN;simp only at B ⊢;generalize E9.fresh (S.X8 v) (S.I5 w).length S.tick.tick=q at f1 f2 f3 f4 f5 f6 B ⊢;have t3:=t2.trans ok (BH.U2 PN f2);split
    ·rename_i g;exact⟨t3,λm h=>absurd h g⟩
    ·rename_i g;rw[A7 g]at B;have gz:DC q.1 (q.1.make (S.F9 w) (q.2.1.getD 0 0) (q.2.1.getD 1 0)).1:=by
      unfold E9.make;split
      ·exact DC.refl _
      ·exact DC.add _ _
     split
     ·exact⟨t3.trans ok (BH.U2 f1 gz),λm h=>by rename_i gg;exact absurd h gg⟩
     ·rename_i gg;rw[A7 gg]at B;have g0:q.2.2=0:=Classical.not_not.1 g;have ql:=f6 g0;have kw:=ok.knd hw;have kn:=ok.YP hw;have Vr:S.F9 w=7\/S.F9 w=8\/S.F9 w=9:=by
       by_cases A4n:S.F9 w<=5
       ·exfalso;have h0:(S.I5 w).length=0:=by rw[kn];unfold Nu;rw[A7 (by omega),A7 (by omega)]
        obtain⟨d,d1,-,d3,d4,-⟩:=(ok.L6 hw).nd;have hr:(S.L6 w).r=w:=rw_;rw[hr]at d1;have hk:(S.L6 w).D6=[]:=by
         have:d.D6.length=0:=by rw[<- Du d1];exact h0
         exact zaq.1 (by omega)
        rcases NT.Au.1 ((ok.CP hw).1 (Classical.not_not.1 R6))with e | ⟨u,hu,-⟩
        ·exact absurd (show w=4 by rw[<- hr];exact e.symm) xE
        ·rw[hk]at hu;cases hu
       ·omega
      have p0:q.2.1.getD 0 0<q.1.l.length:=by
       have:0<q.2.1.length:=by rw[ql,kn];unfold Nu;split<;>(try split)<;>omega
       rw[z6q,z3q this];exact f5 _ (z9q this)
      have p1:S.F9 w≠8->q.2.1.getD 1 0<q.1.l.length:=by
       intro h8;have:1<q.2.1.length:=by rw[ql,kn];unfold Nu;rw[A7 h8,C8 (by omega)];omega
       rw[z6q,z3q this];exact f5 _ (z9q this)
      obtain⟨m1,m2,m3,m4,m5,m6⟩:=GK f1 Vr p0 p1;generalize q.1.make (S.F9 w) (q.2.1.getD 0 0) (q.2.1.getD 1 0)=z at m1 m2 m3 m4 m5 m6 gg gz B ⊢;have t4:=t3.trans ok (BH.U2 f1 gz);have hvz:=z0q hv t4.le;have rvz:z.1.root v=v:=by rw[m2.root f1 (z0q hv t3.le),f2.root PN hv];have:S.tick.tick.root v=S.root v:=(ok.L6 hv).tick.tick.Hl;rw[this,rv]
      have kvz:z.1.F9 (z.1.root v)=6:=by rw[rvz,(t4.at_ v hv).1];exact h6
      refine⟨t4.trans ok (BH.link m1 hvz m4 kvz),λm h0 hm=>?_⟩;simp only[D8]at hm;subst hm;have h0:(z.1.link v z.2.1).2=0:=h0;rw[nH m1 hvz m4 hvz rfl h0];by_cases e:z.1.root z.2.1=z.1.root v
      ·exfalso;unfold E9.link at h0;rw[C8 (.inr e.symm)]at h0;simp at h0
      ·exact(TW m1 hvz m4 m4 e).symm
structure Goes(S T:E9)(p:Nat×Nat)(rest l:List (Nat×Nat)):Prop where
 ok:T.Ok
 ext:Y4 S T
 st:BH S T
 lt:∀q∈l,q.1<T.l.length/\q.2<T.l.length
 m:T.mx-T.cnt<S.mx-S.cnt\/(T.cnt=S.cnt/\(T.uv<S.uv\/(T.uv=S.uv/\wt T l<wt S (p::rest))))
 l:l=rest\/∃x y,l=(T.I5 (T.root x)).zip (T.I5 (T.root y))++rest/\T.root p.1=T.root x/\x<T.l.length/\T.F9 (T.root x)≠6
variable {rest:List (Nat×Nat)}
def agree_step(ok:S.Ok){p:Nat×Nat}(hl:∀q∈p::rest,q.1<S.l.length/\q.2<S.l.length):
 (∃q,(∀f,E9.O9 (f+1) S (p::rest)=some q)/\q.1.Ok/\Y4 S q.1/\BH S q.1)\/∃T l,(∀f,E9.O9 (f+1) S (p::rest)=E9.O9 f T l)/\Goes S T p rest l:=by
 obtain⟨h1,h2⟩:=hl p (z4q ..);have BI:∀q∈rest,q.1<S.l.length/\q.2<S.l.length:=λq hq=>hl q (z2q _ hq);have hw:wt S rest<wt S (p::rest):=by have:=B4E (S.L6 p.1);simp only[wt,zeq,zfq];omega
 have x1:=ok.Hg h1;have x2:=ok.Hg h2;have Yt:∀{T:E9},Y4 S T->∀q∈rest,q.1<T.l.length/\q.2<T.l.length:=λe q hq=>⟨z0q (BI q hq).1 e.le,z0q (BI q hq).2 e.le⟩;have low:∀n,Goes S (S.lower n 0) p rest rest:=λn=>⟨ok.lower _ _,Y4.lower S _ _,.like ok (Z0.lower S _ _) (ziq (NU ..).symm),Yt (Y4.lower S _ _),.inr ⟨rfl,.inr ⟨zG ..,by rw[B5O (Z0.lower S _ _) ok λq hq=>(BI q hq).1];exact hw⟩⟩,.inl rfl⟩;have D6:∀(T:E9)(x y:Nat),T.Ok->Y4 S T->x<T.l.length->y<T.l.length->∀q∈(T.I5 (T.root x)).zip (T.I5 (T.root y))++rest,q.1<T.l.length/\q.2<T.l.length:=by
  intro T x y okT e hx hy q hq;rcases z8q.1 hq with hq | hq
  ·exact⟨okT.NS hx (zlq hq).1,okT.NS hy (zlq hq).2⟩
  ·exact Yt e q hq
 by_cases c1:S.root p.1=S.root p.2
 ·exact .inr ⟨S,rest,λf=>by rw[Y7,C8 c1],ok,Y4.refl S,BH.refl ok,BI,.inr ⟨rfl,.inr ⟨rfl,hw⟩⟩,.inl rfl⟩
 by_cases c2:S.root p.1=4
 ·exact .inr ⟨_,rest,λf=>by rw[Y7,A7 c1,C8 c2],low _⟩
 by_cases c3:S.root p.2=4
 ·exact .inr ⟨_,rest,λf=>by rw[Y7,A7 c1,A7 c2,C8 c3],low _⟩
 by_cases c4:S.F9 (S.root p.1)=6
 ·have B:=Gx ok x1 x2 (ok.rr h1) (ok.rr h2) c1 c3 c4;obtain⟨B2,B3⟩:=BH.become ok x1 x2 (ok.rr h1) (ok.rr h2) c1 c3 c4;by_cases e0:(S.become (S.root p.1) (S.root p.2)).2.2=0
  ·cases hm:(S.become (S.root p.1) (S.root p.2)).2.1 with
   |none=>obtain⟨b1,b2⟩:=B.none e0 hm;exact .inr ⟨_,rest,λf=>by rw[Y7,A7 c1,A7 c2,A7 c3,C8 c4,A7 (λg=>g e0),hm],B.ok,B.ext,B2,Yt B.ext,.inr ⟨b1,.inl b2⟩,.inl rfl⟩
   |some m=>
     obtain⟨b1,b2,b3,b4⟩:=B.some m e0 hm;have:=B.ok.cm;have em:=B.ext.mx;refine .inr ⟨_,_,λf=>by rw[Y7,A7 c1,A7 c2,A7 c3,C8 c4,A7 (λg=>g e0),hm],B.ok,B.ext,B2,D6 _ m _ B.ok B.ext b1 (z0q x2 B.ext.le),.inl (by omega),.inr ⟨m,S.root p.2,rfl,?_,b1,?_⟩⟩
     ·rw[<- B3 m e0 hm];exact(B2.same _ h1).symm
     ·rw[b3,b4];intro h6;unfold E9.become at hm;rw[C8 h6]at hm;cases hm
  ·exact .inl ⟨(_,0,0,_),λf=>by rw[Y7,A7 c1,A7 c2,A7 c3,C8 c4,C8 e0],B.ok,B.ext,B2⟩
 by_cases c5:S.F9 (S.root p.2)=6
 ·have B:=Gx ok x2 x1 (ok.rr h2) (ok.rr h1) (Ne.symm c1) c2 c5;obtain⟨B2,B3⟩:=BH.become ok x2 x1 (ok.rr h2) (ok.rr h1) (Ne.symm c1) c2 c5;by_cases e0:(S.become (S.root p.2) (S.root p.1)).2.2=0
  ·cases hm:(S.become (S.root p.2) (S.root p.1)).2.1 with
   |none=>obtain⟨b1,b2⟩:=B.none e0 hm;exact .inr ⟨_,rest,λf=>by rw[Y7,A7 c1,A7 c2,A7 c3,A7 c4,C8 c5,A7 (λg=>g e0),hm],B.ok,B.ext,B2,Yt B.ext,.inr ⟨b1,.inl b2⟩,.inl rfl⟩
   |some m=>obtain⟨b1,b2,b3,b4⟩:=B.some m e0 hm;have:=B.ok.cm;have em:=B.ext.mx;refine .inr ⟨_,_,λf=>by rw[Y7,A7 c1,A7 c2,A7 c3,A7 c4,C8 c5,A7 (λg=>g e0),hm],B.ok,B.ext,B2,D6 _ _ m B.ok B.ext (z0q x1 B.ext.le) b1,.inl (by omega),.inr ⟨S.root p.1,m,rfl,(B2.same _ h1).symm,z0q x1 B.ext.le,?_⟩⟩;rw[b4];exact c4
  ·exact .inl ⟨(_,0,0,_),λf=>by rw[Y7,A7 c1,A7 c2,A7 c3,A7 c4,C8 c5,C8 e0],B.ok,B.ext,B2⟩
 by_cases c6:S.F9 (S.root p.1)=S.F9 (S.root p.2)
 ·refine .inr ⟨S,(S.I5 (S.root p.1)).zip (S.I5 (S.root p.2))++rest,λf=>by rw[Y7,A7 c1,A7 c2,A7 c3,A7 c4,A7 c5,A7 (λg=>g c6)],ok,Y4.refl S,BH.refl ok,D6 S _ _ ok (Y4.refl S) h1 h2,.inr ⟨rfl,.inr ⟨rfl,?_⟩⟩,.inr ⟨p.1,p.2,rfl,rfl,h1,c4⟩⟩;obtain⟨d,d1,d2,d3,d4,d5⟩:=(ok.L6 h1).nd;have hz:=B2p ok (S.I5 (S.root p.1)) (S.L6 p.1).D6 (S.I5 (S.root p.2)) (by
   have:S.I5 (S.root p.1)=d.D6:=Du d1;rw[this];exact d4) (by
   have:S.I5 (S.root p.1)=d.D6:=Du d1;rw[this];exact d5)
  have hb:(S.L6 p.1).big=1+NT.xu (S.L6 p.1).D6:=by cases S.L6 p.1;rw[NT.big];rfl
  simp only[wt,zeq,zfq,zxq,List.sum_append]at hz ⊢;omega
 ·exact .inl ⟨(S,_,_,4),λf=>by rw[Y7,A7 c1,A7 c2,A7 c3,A7 c4,A7 c5,C8 c6],ok,Y4.refl S,BH.refl ok⟩
def B2x:∀(A B C:Nat)(S:E9)(l:List (Nat×Nat)),S.mx-S.cnt<=A->S.uv<=B->wt S l<=C->S.Ok->(∀p∈l,p.1<S.l.length/\p.2<S.l.length)->∃f q,E9.O9 f S l=some q:=by
 intro A;induction A using Nat.strongRecOn with
 |_ A ihA=>
 intro B;induction B using Nat.strongRecOn with
 |_ B ihB=>
 intro C;induction C using Nat.strongRecOn with
 |_ C ihC=>
   intro S l hA hB hC ok hl;cases l with
   |nil=>exact⟨1,_,rfl⟩
   |cons p rest=>
     rcases agree_step ok hl with⟨q,h,-⟩ | ⟨T,l,h,G⟩
     ·exact⟨1,q,h 0⟩
     ·have:∃f q,E9.O9 f T l=some q:=by
       have em:=G.ext.mx;have cm:=G.ok.cm;rcases G.m with m | ⟨m0,m | ⟨m1,m2⟩⟩
       ·exact ihA _ (by omega) _ _ T l (z1q _) (z1q _) (z1q _) G.ok G.lt
       ·exact ihB _ (by omega) _ T l (by omega) (z1q _) (z1q _) G.ok G.lt
       ·exact ihC _ (by omega) T l (by omega) (by omega) (z1q _) G.ok G.lt
      obtain⟨f,q,hf⟩:=this;exact⟨f+1,q,(h f).trans hf⟩
def Mt:∀(f:Nat)(S:E9)(l:List (Nat×Nat))(q:E9×Nat×Nat×Nat),S.Ok->(∀p∈l,p.1<S.l.length/\p.2<S.l.length)->E9.O9 f S l=some q->q.1.Ok/\Y4 S q.1/\BH S q.1
 |0,S,l,q,ok,hl,h=>by simp[E9.O9]at h
 |f+1,S,[],q,ok,hl,h=>by simp only[E9.O9,D8]at h;subst h;exact⟨ok,Y4.refl S,BH.refl ok⟩
 |f+1,S,p::rest,q,ok,hl,h=>by
   rcases agree_step ok hl with⟨q',h',a,c,d⟩ | ⟨T,l,h',G⟩
   ·rw[h' f]at h;cases h;exact⟨a,c,d⟩
   ·rw[h' f]at h;obtain⟨a,c,d⟩:=Mt f T l q G.ok G.lt h;exact⟨a,G.ext.trans c,G.st.trans ok d⟩
def fw:∀(f:Nat)(S:E9)(l:List (Nat×Nat))(q:E9×Nat×Nat×Nat),S.Ok->(∀p∈l,p.1<S.l.length/\p.2<S.l.length)->E9.O9 f S l=some q->∀g,f<=g->E9.O9 g S l=some q
 |0,S,l,q,ok,hl,h,g,hg=>by simp[E9.O9]at h
 |f+1,S,[],q,ok,hl,h,0,hg=>by omega
 |f+1,S,[],q,ok,hl,h,g+1,hg=>h
 |f+1,S,p::rest,q,ok,hl,h,0,hg=>by omega
 |f+1,S,p::rest,q,ok,hl,h,g+1,hg=>by
   rcases agree_step ok hl with⟨q',h',a,c,d⟩ | ⟨T,l,h',G⟩
   ·rw[h' f]at h;rw[h' g];exact h
   ·rw[h' f]at h;rw[h' g];exact fw f T l q G.ok G.lt h g (by omega)
def WC(ok:S.Ok){a b:Nat}(ha:a<S.l.length)(hb:b<S.l.length):∃f,E9.O9 f S [(a,b)]=some (S.agree a b):=by have:∃f q,E9.O9 f S [(a,b)]=some q:=B2x _ _ _ S _ (z1q _) (z1q _) (z1q _) ok (by simp[ha,hb]);unfold E9.agree;rw[dif_pos this];exact⟨_,this.choose_spec.choose_spec⟩
theorem xk(ok:S.Ok){a b:Nat}(ha:a<S.l.length)(hb:b<S.l.length){f:Nat}{q:E9×Nat×Nat×Nat}(h:E9.O9 f S [(a,b)]=some q):S.agree a b=q:=by
 obtain⟨g,hg⟩:=WC ok ha hb;have hl:∀p∈[(a,b)],p.1<S.l.length/\p.2<S.l.length:=by simp[ha,hb]
 have h1:=fw f S _ q ok hl h (max f g) (zpq ..);have h2:=fw g S _ _ ok hl hg (max f g) (zjq ..);rw[h1]at h2;cases h2;rfl
def Zy(ok:S.Ok){a b:Nat}(ha:a<S.l.length)(hb:b<S.l.length):(S.agree a b).1.Ok/\Y4 S (S.agree a b).1/\BH S (S.agree a b).1:=by obtain⟨f,hf⟩:=WC ok ha hb;exact Mt f S _ _ ok (by simp[ha,hb]) hf
mutual
def NT.high:NT->Nat
 |.mk _ _ ts=>NT.ZL ts+1
def NT.ZL:List NT->Nat
 |[]=>0
 |t::ts=>max t.high (NT.ZL ts)
end
def A5I:∀{ts:List NT}{t:NT},t∈ts->t.high<=NT.ZL ts
 |[],_,h=>by cases h
 |u::ts,t,h=>by
   rw[NT.ZL];rcases zdq.1 h with rfl | h
   ·omega
   ·have:=A5I h;omega
def A2Q:∀{ts:List NT},ts≠[]->∃t∈ts,t.high=NT.ZL ts
 |[],h=>absurd rfl h
 |[t],_=>⟨t,z5q.2 rfl,by simp[NT.ZL]⟩
 |t::u::ts,_=>by
   obtain⟨w,w1,w2⟩:=A2Q (ts:=u::ts) (by simp);rw[NT.ZL];by_cases h:t.high<=NT.ZL (u::ts)
   ·exact⟨w,z2q _ w1,by omega⟩
   ·exact⟨t,z4q ..,by omega⟩
def U8.high(t:NT):∀n,U8 S n t->∃l:List Nat,l.length=t.high/\l.Nodup/\∀x∈l,x∈t.all:=by
 induction t using NT.ind with
 |h r k ts ih=>
   intro n h;by_cases e:ts=[]
   ·exact⟨[r],by rw[NT.high,e];rfl,by simp,λx hx=>by rw[z5q.1 hx];exact NT.Au.2 (.inl rfl)⟩
   ·obtain⟨t,t1,t2⟩:=A2Q e;obtain⟨m,hm⟩:=h.kid (u:=t) t1;obtain⟨l,l1,l2,l3⟩:=ih t t1 m hm;refine⟨r::l,by rw[NT.high,zqq,l1,t2],List.nodup_cons.2 ⟨λhr=>h.fresh t1 (l3 r hr),l2⟩,λx hx=>?_⟩;rcases zdq.1 hx with rfl | hx
    ·exact NT.Au.2 (.inl rfl)
    ·exact NT.Au.2 (.inr ⟨t,t1,l3 x hx⟩)
def E9.Ok.high(ok:S.Ok){n:Nat}(hn:n<S.l.length):(S.L6 n).high<=S.l.length:=by obtain⟨l,l1,l2,l3⟩:=U8.high _ _ (ok.L6 hn);have:=Zg l2 (m:=List.range S.l.length) λx hx=>List.mem_range.2 ((ok.L6 hn).B0L (l3 x hx));rw[List.length_range]at this;omega
def Low(F:E9)(H:Nat):List (Nat×Nat)->Prop
 |[]=>True
 |p::rest=>(F.L6 p.1).high+rest.length<=H/\Low F H rest
def Low.zip(okF:F.Ok){x H:Nat}(hx:x<F.l.length)(hr:Low F H rest)(h:(F.L6 x).high+rest.length<=H)(js:List Nat)(hk:(F.I5 (F.root x)).length<=2):Low F H ((F.I5 (F.root x)).zip js++rest):=by
 obtain⟨d,d1,d2,d3,d4,d5⟩:=(okF.L6 hx).nd;have e:F.I5 (F.root x)=d.D6:=Du d1;rw[e]at hk ⊢;have hh:(F.L6 x).high=NT.ZL (F.L6 x).D6+1:=by cases F.L6 x;rw[NT.high];rfl
 have kid:∀k∈d.D6,(F.L6 k).high+1<=(F.L6 x).high:=by intro k hk;obtain⟨j,hj,rfl⟩:=zkq.1 hk;have:=A5I (z9q (show j<(F.L6 x).D6.length by omega));rw[(d5 j hj (by omega)).eq];omega
 match d.D6,js,hk,kid with
 |[],js,_,_=>simpa using hr
 |[k],[],_,_=>simpa using hr
 |[k],j::js,_,kid=>have:=kid k (by simp);simp only[zuq,zRq,ztq,zKq];exact⟨by simp only;omega,hr⟩
 |[k,k'],[],_,_=>simpa using hr
 |[k,k'],[j],_,kid=>have:=kid k (by simp);simp only[zuq,List.zip_nil_right,ztq,zKq];exact⟨by simp only;omega,hr⟩
 |[k,k'],j::j'::js,_,kid=>have:=kid k (by simp);have:=kid k' (by simp);simp only[zuq,zRq,ztq,zKq];exact⟨by simp only[zqq];omega,by simp only;omega,hr⟩
 |_::_::_::_,_,hk,_=>simp at hk
def Low.len{H:Nat}:∀{l:List (Nat×Nat)},Low F H l->l.length<=H+1
 |[],_=>zhq _
 |p::l,h=>by have:=h.1;simp only[zqq];omega
end Go.Su

/-
 INFERENCE, as a function: patterns, expressions, what is read behind them.
-/
namespace Go.Su
noncomputable section
structure GY where
 lo:Int
 hi:Int
 why:Nat
 left:Nat
 right:Nat
 name:ByteArray
def P9:GY:=⟨0,0,0,0,0,Z5⟩
inductive DD where
 |mk (node:Nat) (types vars:List Nat) (D6:List DD)
structure EN where
 name:ByteArray
 node:Nat
 vars:List Nat
structure W where
 s:E9
 bad:GY
 err:Nat
 types:List Nat
 vars:List Nat
 D6:List DD
def Ex.kd(t:Ex)(i:Nat):Ex:=t.D6.getD i t
structure PS where
 s:E9
 names:List ByteArray
 nodes:List Nat
 bad:GY
namespace PS
def agree(x:PS)(lo hi:Int)(a b:Nat):PS×Nat :=({ x with s:=(x.s.agree a b).1,bad:=if (x.s.agree a b).2.2.2≠0/\(x.s.agree a b).2.2.2≠7 then⟨lo,hi,(x.s.agree a b).2.2.2,(x.s.agree a b).2.1,(x.s.agree a b).2.2.1,Z5⟩else x.bad },(x.s.agree a b).2.2.2)
def made(x:PS)(A8:Nat)(lo hi:Int)(n k many:Nat):PS×List Nat×Nat×Nat :=
 let f:=E9.fresh A8 many x.s
 if f.2.2≠0 then({ x with s:=f.1 },[],0,f.2.2)
 else
  let m:=f.1.make k (f.2.1.getD 0 0) (f.2.1.getD (many-1) 0)
  if m.2.2≠0 then({ x with s:=m.1 },[],0,m.2.2)
  else
   let a:=({ x with s:=m.1 }:PS).agree lo hi n m.2.1
   (a.1,f.2.1,m.2.1,a.2)
end PS
mutual
def BG(A8:Nat):F5->Nat->PS->PS×Nat
 |.mk k lo hi name _ _ ks,nd,x=>
   if k=1 then(x,0)
   else if k=2 then({ x with names:=x.names++[name],nodes:=x.nodes++[nd] },0)
   else if k=7 then
    if (x.made A8 lo hi nd 7 2).2.2.2≠0 then((x.made A8 lo hi nd 7 2).1,(x.made A8 lo hi nd 7 2).2.2.2)else DY A8 ks (x.made A8 lo hi nd 7 2).2.1 (x.made A8 lo hi nd 7 2).1
   else if k=8\/k=9 then
    if (x.made A8 lo hi nd 8 1).2.2.2≠0\/k=8 then((x.made A8 lo hi nd 8 1).1,(x.made A8 lo hi nd 8 1).2.2.2)else DY A8 ks ((x.made A8 lo hi nd 8 1).2.1++[(x.made A8 lo hi nd 8 1).2.2.1]) (x.made A8 lo hi nd 8 1).1
   else x.agree lo hi nd (k-3).toNat
def DY(A8:Nat):List F5->List Nat->PS->PS×Nat
 |[],_,x=>(x,0)
 |p::ps,ns,x=>if (BG A8 p (ns.headD 0) x).2≠0 then BG A8 p (ns.headD 0) x else DY A8 ps ns.tail (BG A8 p (ns.headD 0) x).1
end
namespace W
variable (w:W)
def fails(e:Nat)(b:GY):W:=if w.err=0/\e≠0 then{ w with err:=e,bad:=if e≠7 then b else w.bad }else w
variable (A8:Nat)
def fresh:W×Nat:=if w.err≠0 then(w,0)else(({ w with s:=(w.s.var A8).1 }:W).fails (w.s.var A8).2.2 P9,(w.s.var A8).2.1)
def made(k a b:Nat):W×Nat:=if w.err≠0 then(w,0)else(({ w with s:=(w.s.make k a b).1 }:W).fails (w.s.make k a b).2.2 P9,(w.s.make k a b).2.1)
def put(t:Ty):W×Nat:=if w.err≠0 then(w,0)else(({ w with s:=(w.s.put t).1 }:W).fails (w.s.put t).2.2 P9,(w.s.put t).2.1)
def agree(a b:Nat)(e:Ex):W :=if w.err≠0 then w else({ w with s:=(w.s.agree a b).1 }:W).fails (w.s.agree a b).2.2.2 ⟨e.lo,e.hi,(w.s.agree a b).2.2.2,(w.s.agree a b).2.1,(w.s.agree a b).2.2.1,Z5⟩
def tell(q:W×Nat):W×Nat:=({ q.1 with types:=q.1.types++[q.2] },q.2)
def Ae(t:Ty)(A8:Nat):W×Nat:=if t.E8≠0 then w.put t else tell (w.fresh A8)
def above(n A8:Nat):W×List Nat:=({ w with s:=w.s.tick },(w.s.vars n).filter λv=>decide (A8<w.s.X8 v))
def many(A8:Nat):Nat->W->W
 |0,w=>w
 |k+1,w=>many A8 k (tell (w.fresh A8)).1
variable (e:Ex)
def name(A8:Nat)(l:List EN):W×Nat :=
 match l.reverse.find? λx=>decide (x.name=e.name)with
 |none=>(w.fails 6 ⟨e.lo,e.hi,6,0,0,e.name⟩,0)
 |some x=>
   if x.vars=[]then(w,x.node)
   else
    let w1:=many A8 x.vars.length w
    if w1.err≠0 then(w1,0)else(({ w1 with s:=(w1.s.copy x.node x.vars w1.types).1 }:W).fails (w1.s.copy x.node x.vars w1.types).2.2 P9,(w1.s.copy x.node x.vars w1.types).2.1)
end W
variable (w:W)
def WE(f a:Nat)(e:Ex)(A8:Nat):W×Nat :=
 if w.err≠0 then(w,0)
 else if w.s.F9 (w.s.root f)=5 then(w.agree a 4 (e.kd 1),4)
 else if w.s.F9 (w.s.root f)=6 then
  let v:=w.fresh A8
  let u:=v.1.fresh A8
  let m:=u.1.made 9 v.2 u.2
  ((m.1.agree f m.2 (e.kd 0)).agree a v.2 (e.kd 1),u.2)
 else if w.s.F9 (w.s.root f)=9 then(w.agree a ((w.s.I5 (w.s.root f)).getD 0 0) (e.kd 1),(w.s.I5 (w.s.root f)).getD 1 0)
 else(w.fails 4 ⟨(e.kd 0).lo,(e.kd 0).hi,4,w.s.F9 (w.s.root f),9,Z5⟩,0)
def Rec:=Ex->Nat->List EN->W->W×Nat×DD
section
variable (R:Rec)
def J4(w:W)(e:Ex)(A8:Nat)(l:List EN):W×Nat :=if w.err≠0 then(w,0)else({ (R e A8 l w).1 with types:=w.types,vars:=w.vars,D6:=w.D6++[(R e A8 l w).2.2] },(R e A8 l w).2.1)
def W.Y2(w:W)(l:List Nat):W:={ w with types:=l }
def W.Si(w:W)(l:List Nat):W:={ w with vars:=l }
def Ox(w:W)(e:Ex)(A8:Nat)(l:List EN):W×Nat :=
 let a:=J4 R w (e.kd 0) A8 l
 let b:=J4 R a.1 (e.kd 1) A8 l
 let v:=b.1.fresh A8
 let n:=((v.1.Y2 [v.2]).agree a.2 v.2 (e.kd 0)).made 8 v.2 0
 (n.1.agree b.2 n.2 (e.kd 1),n.2)
def UN(w:W)(e:Ex)(A8:Nat)(l:List EN):W×Nat :=
 let f:=J4 R w (e.kd 0) A8 l
 let a:=J4 R f.1 (e.kd 1) A8 l
 WE a.1 f.2 a.2 e A8
def VD(w:W)(e:Ex)(A8:Nat)(l:List EN):W×Nat :=
 if e.a.E8≠0 then
  let a:=J4 R w (e.kd 0) A8 l
  let n:=a.1.put e.a
  J4 R (n.1.agree a.2 n.2 (e.kd 0)) (e.kd 1) A8 (l++[⟨e.name,n.2,[]⟩])
 else if (e.kd 0).value=true then
  let a:=J4 R w (e.kd 0) (A8+1) l
  if a.1.err≠0 then J4 R a.1 (e.kd 1) A8 (l++[⟨e.name,a.2,[]⟩])
  else J4 R ((a.1.above a.2 A8).1.Si (a.1.above a.2 A8).2) (e.kd 1) A8 (l++[⟨e.name,a.2,(a.1.above a.2 A8).2⟩])
 else
  let a:=J4 R w (e.kd 0) A8 l
  J4 R a.1 (e.kd 1) A8 (l++[⟨e.name,a.2,[]⟩])
def VM(w:W)(e:Ex)(A8:Nat)(l:List EN):W×Nat :=
 let p:=w.Ae e.a (A8+1)
 let r:=p.1.Ae e.b (A8+1)
 let f:=r.1.made 9 p.2 r.2
 let b:=J4 R f.1 (e.kd 0) (A8+1) (l++[⟨e.name,f.2,[]⟩,⟨e.arg,p.2,[]⟩])
 let w1:=b.1.agree b.2 r.2 (e.kd 0)
 if w1.err≠0 then J4 R w1 (e.kd 1) A8 (l++[⟨e.name,f.2,[]⟩])
 else J4 R ((w1.above f.2 A8).1.Si (w1.above f.2 A8).2) (e.kd 1) A8 (l++[⟨e.name,f.2,(w1.above f.2 A8).2⟩])
def Ow(w:W)(e:Ex)(A8:Nat)(l:List EN):W×Nat :=
 let c:=J4 R w (e.kd 0) A8 l
 let a:=J4 R (c.1.agree c.2 1 (e.kd 0)) (e.kd 1) A8 l
 let b:=J4 R a.1 (e.kd 2) A8 l
 let v:=b.1.fresh A8
 (((v.1.Y2 [v.2]).agree a.2 v.2 (e.kd 1)).agree b.2 v.2 (e.kd 2),v.2)
def Gd(A8:Nat)(l:List EN)(v r:Nat):List (F5×Ex)->W->W×Nat
 |[],w=>(w,r)
 | (p,k)::qs,w=>
   if w.err≠0 then(w,0)
   else
    let q:=BG A8 p v ⟨w.s,[],[],P9⟩
    let w1:=({ w with s:=q.1.s }:W).fails q.2 q.1.bad
    let b:=J4 R w1 k A8 (l++if q.2≠0 then[]else List.zipWith (λs n=>⟨s,n,[]⟩) q.1.names q.1.nodes)
    Gd A8 l v r qs (b.1.agree b.2 r k)
def LD(w:W)(e:Ex)(A8:Nat)(l:List EN):W×Nat :=
 let a:=J4 R w (e.kd 0) A8 l
 let v:=a.1.fresh A8
 let r:=(v.1.agree a.2 v.2 (e.kd 0)).fresh A8
 Gd R A8 l v.2 r.2 (e.J8.zip e.D6.tail) (r.1.Y2 [v.2,r.2])
def LZ(A8:Nat)(l:List EN)(want:Nat):List Ex->W->W
 |[],w=>w
 |k::ks,w=>LZ A8 l want ks ((J4 R w k A8 l).1.agree (J4 R w k A8 l).2 want k)
def U0(w:W)(e:Ex)(A8:Nat)(l:List EN):W×Nat :=
 if e.E8=1 then w.name e A8 l
 else if e.E8=2\/e.E8=3\/e.E8=4\/e.E8=5 then(w,(e.E8-2).toNat)
 else if e.E8=6 then
  let a:=J4 R w (e.kd 0) A8 l
  let b:=J4 R a.1 (e.kd 1) A8 l
  b.1.made 7 a.2 b.2
 else if e.E8=7 then(((w.fresh A8).1.Y2 [(w.fresh A8).2]).made 8 (w.fresh A8).2 0)
 else if e.E8=8 then Ox R w e A8 l
 else if e.E8=9 then
  let p:=w.Ae e.a A8
  let b:=J4 R p.1 (e.kd 0) A8 (l++[⟨e.name,p.2,[]⟩])
  b.1.made 9 p.2 b.2
 else if e.E8=10 then UN R w e A8 l
 else if e.E8=11 then VD R w e A8 l
 else if e.E8=12 then VM R w e A8 l
 else if e.E8=13 then Ow R w e A8 l
 else if e.E8=14 then LD R w e A8 l
 else if e.E8=15 then
  let a:=J4 R w (e.kd 0) A8 l
  let n:=a.1.put e.a
  (n.1.agree a.2 n.2 (e.kd 0),n.2)
 else(LZ R A8 l (if e.op=7 then 2 else 0) e.D6 w,if e.op=5\/e.op=6\/e.op=7 then 1 else 0)
end
def N9:Nat->Rec
 |0=>λe A8 l w=>(w,0,.mk 0 [] [] [])
 |f+1=>λe A8 l w=>
   let q:=U0 (N9 f) { w with types:=[],vars:=[],D6:=[] } e A8 l
   (q.1,q.2,.mk q.2 q.1.types q.1.vars q.1.D6)
mutual
def V7:DD->W->W
 |.mk n _ _ ks,w=>if w.err≠0 then w else Ei ks (({ w with s:=(w.s.read n).1 }:W).fails (w.s.read n).2.2 P9)
def Ei:List DD->W->W
 |[],w=>w
 |k::ks,w=>Ei ks (V7 k w)
end
def X9:List Nat->W->W×List Ty
 |[],w=>(w,[])
 |n::ns,w=>
   if w.err≠0 then(w,[])
   else((X9 ns (({ w with s:=(w.s.read n).1 }:W).fails (w.s.read n).2.2 P9)).1,(w.s.read n).2.1::(X9 ns (({ w with s:=(w.s.read n).1 }:W).fails (w.s.read n).2.2 P9)).2)
mutual
def X3:DD->W->W×J6
 |.mk _ ts vs ks,w=>((Af ks (X9 ts w).1).1,.mk (X9 ts w).2 (vs.map Int.ofNat) (Af ks (X9 ts w).1).2)
def Af:List DD->W->W×List J6
 |[],w=>(w,[])
 |k::ks,w=>if w.err≠0 then(w,[])else((Af ks (X3 k w).1).1,(X3 k w).2::(Af ks (X3 k w).1).2)
end
def nI(vs:List Int)(N:List Int):List Int:=vs.foldl (λN v=>if v∈N then N else N++[v]) N
mutual
def A52:J6->List Int->List Int
 |.mk ts vs ks,N=>vF ks (nI vs (ts.foldl (λN t=>nI t.vars N) N))
def vF:List J6->List Int->List Int
 |[],N=>N
 |k::ks,N=>vF ks (A52 k N)
end
def numOf(N:List Int)(v:Int):Int:=if v∈N then(N.idxOf v:Int)else 0
mutual
def KL(N:List Int):Ty->Ty
 |.mk k n ts=>if k=6 then .mk k (numOf N n) ts else if ts.length=0 then .mk k n ts else .mk k 0 (ZT N ts)
def ZT(N:List Int):List Ty->List Ty
 |[]=>[]
 |t::ts=>KL N t::ZT N ts
end
mutual
def VI(N:List Int):J6->J6
 |.mk ts vs ks=>.mk (ts.map (KL N)) (vs.map (numOf N)) (eU N ks)
def eU(N:List Int):List J6->List J6
 |[]=>[]
 |k::ks=>VI N k::eU N ks
end
structure A4B where
 ty:Ty
 dv:J6
 cnt:Nat
 bad:GY
 err:Nat
def zD:J6:=.mk [] [] []
def K5(e:Ex)(mx:Nat):W×Nat×DD:=N9 e.size e 1 [] ⟨EU mx,P9,0,[],[],[]⟩
def Y8(e:Ex)(mx:Nat):A4B :=
 let x:=K5 e mx
 let r:=X3 x.2.2 (V7 x.2.2 x.1)
 if r.1.err≠0 then⟨zTy,zD,0,r.1.bad,r.1.err⟩
 else
  let N:=A52 r.2 (nI (x.1.s.read x.2.1).2.1.vars [])
  ⟨KL N (x.1.s.read x.2.1).2.1,VI N r.2,r.1.s.cnt,P9,0⟩
end
end Go.Su

/-
 INFERENCE keeps the store right.
-/
namespace Go.Su
set_option linter.defProp false
mutual
def DD.lt(n:Nat):DD->Prop
 |.mk m ts vs ks=>m<n/\(∀x∈ts,x<n)/\((∀x∈vs,x<n)/\vs.length<2 ^ 29)/\DD.Yu n ks
def DD.Yu(n:Nat):List DD->Prop
 |[]=>True
 |k::ks=>DD.lt n k/\DD.Yu n ks
end
def A1S{n:Nat}:∀{ks:List DD},DD.Yu n ks↔∀k∈ks,DD.lt n k
 |[]=>by simp[DD.Yu]
 |k::ks=>by rw[DD.Yu,A1S];simp
mutual
theorem DD.A8v{n m:Nat}(h:n<=m):∀d:DD,DD.lt n d->DD.lt m d
 |.mk a ts vs ks,g=>by rw[DD.lt]at g ⊢;exact⟨z0q g.1 h,λx hx=>z0q (g.2.1 x hx) h,⟨λx hx=>z0q (g.2.2.1.1 x hx) h,g.2.2.1.2⟩,yT h ks g.2.2.2⟩
theorem yT{n m:Nat}(h:n<=m):∀ks:List DD,DD.Yu n ks->DD.Yu m ks
 |[],g=>g
 |k::ks,g=>by rw[DD.Yu]at g ⊢;exact⟨DD.A8v h k g.1,yT h ks g.2⟩
end
def Z6(n:Nat)(l:List EN):Prop:=∀x∈l,x.node<n/\∀v∈x.vars,v<n
variable {n:Nat}{l:List EN}
def Z6.mono{m:Nat}(h:Z6 n l)(le:n<=m):Z6 m l:=λx hx=>⟨z0q (h x hx).1 le,λv hv=>z0q ((h x hx).2 v hv) le⟩
def Z6.app{k:List EN}(h:Z6 n l)(g:Z6 n k):Z6 n (l++k):=λx hx=>by
 rcases z8q.1 hx with hx | hx
 ·exact h x hx
 ·exact g x hx
def Z6.one{s:ByteArray}{m:Nat}(h:m<n):Z6 n [⟨s,m,[]⟩]:=λx hx=>by rw[z5q.1 hx];exact⟨h,by simp⟩
structure l6(w:W):Prop where
 ok:w.s.Ok
 ty:∀x∈w.types,x<w.s.l.length
 vs:(∀x∈w.vars,x<w.s.l.length)/\w.vars.length<2 ^ 29
 ks:DD.Yu w.s.l.length w.D6
structure Good(w w':W):Prop where
 i:l6 w'
 ext:Y4 w.s w'.s
variable {w:W}
def Good.refl(h:l6 w):Good w w:=⟨h,Y4.refl _⟩
def Good.trans{a b c:W}(h:Good a b)(k:Good b c):Good a c:=⟨k.i,h.ext.trans k.ext⟩
def l6.s{w':W}(h:l6 w)(ok:w'.s.Ok)(e:Y4 w.s w'.s)(h1:w'.types=w.types)(h2:w'.vars=w.vars)(h3:w'.D6=w.D6):Good w w' :=⟨⟨ok,by rw[h1];exact λx hx=>z0q (h.ty x hx) e.le,by rw[h2];exact⟨λx hx=>z0q (h.vs.1 x hx) e.le,h.vs.2⟩,by rw[h3];exact yT e.le _ h.ks⟩,e⟩
def Good.fails{w':W}(h:Good w w')(e:Nat)(b:GY):Good w (w'.fails e b):=by
 unfold W.fails;split
 ·exact⟨⟨h.i.ok,h.i.ty,h.i.vs,h.i.ks⟩,h.ext⟩
 ·exact h
theorem W9(w:W)(e:Nat)(b:GY):(w.fails e b).s=w.s:=by unfold W.fails;split<;>rfl
theorem Rv(w:W)(e:Nat)(b:GY):(w.fails e b).types=w.types:=by unfold W.fails;split<;>rfl
variable {S:E9}
def DC.A6H{T:E9}(g:DC S T)(h:S.cnt<=T.cnt):Y4 S T:=⟨g.le,g.mx,h,g.J7⟩
variable {A8:Nat}
def Ab(h:l6 w)(hl:A8<2 ^ 31):Good w (w.fresh A8).1/\(w.fresh A8).2<(w.fresh A8).1.s.l.length:=by
 unfold W.fresh;split
 ·exact⟨Good.refl h,by have:=h.ok.five;simp only;omega⟩
 ·obtain⟨a1,a2,a3,a4,a5,a6⟩:=Ms h.ok hl;exact⟨(h.s (w':={ w with s:=(w.s.var A8).1 }) a1 (a2.A6H a6) rfl rfl rfl).fails _ _,by rw[W9];exact a4⟩
def Dx(h:l6 w){k x y:Nat}(hk:k=7\/k=8\/k=9)(hx:x<w.s.l.length)(hy:k≠8->y<w.s.l.length):Good w (w.made k x y).1/\(w.made k x y).2<(w.made k x y).1.s.l.length:=by
 unfold W.made;split
 ·exact⟨Good.refl h,by have:=h.ok.five;simp only;omega⟩
 ·obtain⟨a1,a2,a3,a4,a5,a6⟩:=GK h.ok hk hx hy;exact⟨(h.s (w':={ w with s:=(w.s.make k x y).1 }) a1 (a2.A6H a6) rfl rfl rfl).fails _ _,by rw[W9];exact a4⟩
variable {t:Ty}
def A6n(ok:S.Ok)(ht:t.rc):(S.put t).1.Ok/\DC S (S.put t).1/\S.cnt<=(S.put t).1.cnt/\(S.put t).2.1<(S.put t).1.l.length:=by
 unfold E9.put;have:=ok.cm;have:=ok.five;split
 ·exact⟨ok,DC.refl S,z1q _,by simp only;omega⟩
 ·obtain⟨p,p2⟩:=We t ht S ok (by omega);exact⟨p.ok,p.U2,by rw[p.cnt];omega,p2⟩
def QM(h:l6 w)(ht:t.rc):Good w (w.put t).1/\(w.put t).2<(w.put t).1.s.l.length:=by
 unfold W.put;split
 ·exact⟨Good.refl h,by have:=h.ok.five;simp only;omega⟩
 ·obtain⟨a1,a2,a3,a4⟩:=A6n h.ok ht;exact⟨(h.s (w':={ w with s:=(w.s.put t).1 }) a1 (a2.A6H a3) rfl rfl rfl).fails _ _,by rw[W9];exact a4⟩
def U4(h:l6 w){a b:Nat}(ha:a<w.s.l.length)(hb:b<w.s.l.length)(e:Ex):Good w (w.agree a b e):=by
 unfold W.agree;split
 ·exact Good.refl h
 ·obtain⟨a1,a2,-⟩:=Zy h.ok ha hb;exact(h.s (w':={ w with s:=(w.s.agree a b).1 }) a1 a2 rfl rfl rfl).fails _ _
variable {l:List Nat}
def Da{w':W}(h:Good w w')(hl:∀x∈l,x<w'.s.l.length):Good w (w'.Y2 l):=⟨⟨h.i.ok,hl,h.i.vs,h.i.ks⟩,h.ext⟩
def Ho{w':W}(h:Good w w')(hl:(∀x∈l,x<w'.s.l.length)/\l.length<2 ^ 29):Good w (w'.Si l):=⟨⟨h.i.ok,h.i.ty,hl,h.i.ks⟩,h.ext⟩
def fH{q:W×Nat}(h:Good w q.1)(hq:q.2<q.1.s.l.length):Good w (W.tell q).1/\(W.tell q).2<(W.tell q).1.s.l.length :=
 ⟨⟨⟨h.i.ok,λx hx=>by
   simp only[W.tell,z8q,z5q]at hx;rcases hx with hx | hx
   ·exact h.i.ty x hx
   ·rw[hx];exact hq,h.i.vs,h.i.ks⟩,h.ext⟩,hq⟩
def Qr(h:l6 w)(ht:t.E8≠0->t.rc)(hl:A8<2 ^ 31):Good w (w.Ae t A8).1/\(w.Ae t A8).2<(w.Ae t A8).1.s.l.length:=by
 unfold W.Ae;split
 ·rename_i g;exact QM h (ht g)
 ·obtain⟨a,c⟩:=Ab h hl;exact fH a c
def B0H(ok:w.s.Ok)(hn:n<w.s.l.length):(w.above n A8).2.length<2 ^ 29:=by have h1:(w.above n A8).2.length<=(w.s.vars n).length:=zHq ..;have h2:(w.s.vars n).length<=(w.s.roots n).length:=zHq ..;have:=E9.A3g ok hn;have:=ok.lc;have:=ok.cm;have:=ok.mm;omega
def Ba(h:l6 w)(hn:n<w.s.l.length):Good w (w.above n A8).1/\(∀x∈(w.above n A8).2,x<(w.above n A8).1.s.l.length)/\(w.above n A8).2.length<2 ^ 29 :=⟨h.s (w':={ w with s:=w.s.tick }) h.ok.tick (Y4.tick _) rfl rfl rfl,λx hx=>h.ok.NZ hn (zsq.1 (zsq.1 hx).1).1,B0H h.ok hn⟩
def tu{A8:Nat}(hl:A8<2 ^ 31):∀(k:Nat){w:W},l6 w->Good w (W.many A8 k w)
 |0,w,h=>Good.refl h
 |k+1,w,h=>by obtain⟨a,c⟩:=Ab h hl;obtain⟨d,-⟩:=fH a c;rw[W.many];exact d.trans (tu hl k d.i)
def vC{S:E9}{n:Nat}:∀(fs ts:List Nat)(K K':List (Nat×Nat)),fs.length<=ts.length->(∀t∈ts,t<n)->(∀e∈K,e.2<n)->S.keys fs ts K=some K'->∀e∈K',e.2<n
 |[],ts,K,K',_,_,hk,h=>by simp only[E9.keys,D8]at h;subst h;exact hk
 |f::fs,[],K,K',hl,_,hk,h=>by simp at hl
 |f::fs,t::ts,K,K',hl,ht,hk,h=>by
   rw[E9.keys]at h;split at h
   ·refine vC fs ts _ K' (by simpa using hl) (λx hx=>ht x (z2q _ hx)) (λe he=>?_) h;rcases z8q.1 he with he | he
    ·exact hk e he
    ·rw[z5q.1 he];exact ht t (z4q ..)
   ·cases h
theorem ZQ(ok:S.Ok)(hn:n<S.l.length)(K:List (Nat×Nat)):S.tick.need K n=S.need K n:=by
 have hr:S.tick.roots n=S.roots n:=by unfold E9.roots;rw[(ok.L6 hn).tick.eq]
 unfold E9.need;rw[hr];congr 1;refine List.filter_congr λr h=>?_;have:=ok.NZ hn h;rw[(ok.L6 this).tick.eq];rfl
def aC(ok:S.Ok)(hn:n<S.l.length){from_ to:List Nat}(hl:from_.length<=to.length)(ht:∀t∈to,t<S.l.length):(S.copy n from_ to).1.Ok/\Y4 S (S.copy n from_ to).1/\(S.copy n from_ to).2.1<(S.copy n from_ to).1.l.length:=by
 unfold E9.copy;have:=ok.five;split
 ·exact⟨ok,Y4.refl S,by simp only;omega⟩
 ·rename_i K hK;split
  ·exact⟨ok.tick,Y4.tick S,by simp only[E9.tick];omega⟩
  ·rename_i hnd;have hk:=vC from_ to [] K hl ht (by simp) hK;have rt:S.tick.roots n=S.roots n:=by unfold E9.roots;rw[(ok.L6 hn).tick.eq]
   obtain⟨C,c2,-⟩:=Zd (S0:=S.tick) (n0:=n) ok.tick hk (by rw[ZQ ok hn];exact zSq.1 hnd) rfl (S.L6 n) n (ok.L6 hn).tick (λx hx=>by rw[rt];exact(ok.CP hn).2 hx) S.tick [] ⟨ok.tick,DC.refl _,rfl,rfl,by simp,zPq,by simp⟩;exact⟨C.ok,(Y4.tick S).trans (C.U2.A6H (by rw[C.cnt];omega)),c2⟩
def Qo{A8:Nat}:∀(k:Nat)(w:W),(W.many A8 k w).types.length=w.types.length+k
 |0,w=>rfl
 |k+1,w=>by
   rw[W.many,Qo k];have:(w.fresh A8).1.types=w.types:=by
    unfold W.fresh;split
    ·rfl
    ·rw[Rv]
   simp only[W.tell,zoq,this,zqq,zZq];omega
def uC(h:l6 w){e:Ex}{l:List EN}(hl:A8<2 ^ 31)(hE:Z6 w.s.l.length l):Good w (w.name e A8 l).1/\(w.name e A8 l).2<(w.name e A8 l).1.s.l.length:=by
 have f5:=h.ok.five;unfold W.name;split
 ·exact⟨(Good.refl h).fails _ _,by rw[W9];simp only;omega⟩
 ·rename_i x hx;obtain⟨x1,x2⟩:=hE x (by simpa using znq hx);split
  ·exact⟨Good.refl h,x1⟩
  ·have g:=tu hl x.vars.length h;have ht:=Qo (A8:=A8) x.vars.length w;simp only;generalize W.many A8 x.vars.length w=w1 at g ht ⊢;split
   ·exact⟨g,by have:=g.i.ok.five;simp only;omega⟩
   ·obtain⟨c1,c2,c3⟩:=aC g.i.ok (z0q x1 g.ext.le) (from_:=x.vars) (to:=w1.types) (by omega) g.i.ty;exact⟨g.trans ((g.i.s (w':={ w1 with s:=(w1.s.copy x.node x.vars w1.types).1 }) c1 c2 rfl rfl rfl).fails _ _),by rw[W9];exact c3⟩
structure QW(x y:PS):Prop where
 ok:y.s.Ok
 ext:Y4 x.s y.s
 nd:(∀n∈x.nodes,n<x.s.l.length)->∀n∈y.nodes,n<y.s.l.length
def QW.trans{x y z:PS}(h:QW x y)(k:QW y z):QW x z:=⟨k.ok,h.ext.trans k.ext,λg=>k.nd (h.nd g)⟩
def iE{x:PS}(ok:x.s.Ok){lo hi:Int}{a b:Nat}(ha:a<x.s.l.length)(hb:b<x.s.l.length):QW x (x.agree lo hi a b).1:=by obtain⟨a1,a2,-⟩:=Zy ok ha hb;exact⟨a1,a2,λg n hn=>z0q (g n hn) a2.le⟩
def FK{x:PS}(ok:x.s.Ok)(hl:A8<2 ^ 31){lo hi:Int}{k many:Nat}(hk:k=7/\many=2\/k=8/\many=1)(hn:n<x.s.l.length):
 QW x (x.made A8 lo hi n k many).1/\(∀y∈(x.made A8 lo hi n k many).2.1,y<(x.made A8 lo hi n k many).1.s.l.length)/\(x.made A8 lo hi n k many).2.2.1<(x.made A8 lo hi n k many).1.s.l.length/\((x.made A8 lo hi n k many).2.2.2=0->(x.made A8 lo hi n k many).2.1.length=many):=by
 have f5:=ok.five;unfold PS.made;obtain⟨f1,f2,f3,f4,f5',f6⟩:=ET hl many x.s ok;simp only;generalize E9.fresh A8 many x.s=q at f1 f2 f3 f4 f5' f6 ⊢;have e1:Y4 x.s q.1:=⟨f2.le,f2.mx,f4,ziq f3.symm⟩;have p1:QW x { x with s:=q.1 }:=⟨f1,e1,λg n hn=>z0q (g n hn) e1.le⟩;split
 ·rename_i g;exact⟨p1,by simp,by have:=f1.five;simp only;omega,λh=>absurd h g⟩
 ·rename_i g;have g0:q.2.2=0:=Classical.not_not.1 g;have ql:=f6 g0;have p0:∀i,i<many->q.2.1.getD i 0<q.1.l.length:=by intro i hi;rw[z6q,z3q (by omega)];exact f5' _ (z9q (by omega))
  obtain⟨m1,m2,m3,m4,m5,m6⟩:=GK f1 (k:=k) (x:=q.2.1.getD 0 0) (y:=q.2.1.getD (many-1) 0) (by omega) (p0 0 (by omega)) (λ_=>p0 (many-1) (by omega));generalize q.1.make k (q.2.1.getD 0 0) (q.2.1.getD (many-1) 0)=z at m1 m2 m3 m4 m5 m6 ⊢;have e2:Y4 x.s z.1:=e1.trans (m2.A6H m6);have p2:QW x { x with s:=z.1 }:=⟨m1,e2,λg n hn=>z0q (g n hn) e2.le⟩;split
  ·rename_i gz;exact⟨p2,by simp,by have:=m1.five;simp only;omega,λh=>absurd h gz⟩
  ·have A:=iE (x:={ x with s:=z.1 }) m1 (lo:=lo) (hi:=hi) (a:=n) (b:=z.2.1) (z0q hn e2.le) m4;refine⟨p2.trans A,λy hy=>?_,z0q m4 A.ext.le,λ_=>ql⟩;exact z0q (z0q (f5' y hy) m2.le) A.ext.le
def F5.vH{p:F5}(h:p.one=true):(p.E8=7\/p.E8=9->p.D6.length=2)/\1<=p.E8/\p.E8<=9:=by
 unfold F5.one at h;split at h
 ·omega
 split at h
 ·omega
 split at h
 ·omega
 split at h
 ·omega
 split at h
 ·omega
 split at h
 ·simp only[zbq,I9]at h;exact⟨λ_=>h.1.1.1,by omega,by omega⟩
 ·cases h
theorem kN(A8:Nat)(p:F5)(ps:List F5)(n:Nat)(ns:List Nat)(x:PS):DY A8 (p::ps) (n::ns) x=if (BG A8 p n x).2≠0 then BG A8 p n x else DY A8 ps ns (BG A8 p n x).1:=by rw[DY];rfl
mutual
theorem NB{A8:Nat}(hl:A8<2 ^ 31):∀(p:F5)(nd:Nat)(x:PS),x.s.Ok->nd<x.s.l.length->p.pat=true->QW x (BG A8 p nd x).1
 |.mk k lo hi name n s ks,nd,x,ok,hn,hp=>by
   have pX:=hp;rw[F5.kP,zbq,zBq]at pX;obtain⟨h1,h2⟩:=pX;obtain⟨KF,Vr⟩:=F5.vH h1;simp only[F5.JV,F5.X0]at KF Vr h2;rw[BG];have f5:=ok.five;split
   ·exact⟨ok,Y4.refl _,λg=>g⟩
   ·split
    ·refine⟨ok,Y4.refl _,λg m hm=>?_⟩;rcases z8q.1 hm with hm | hm
     ·exact g m hm
     ·rw[z5q.1 hm];exact hn
    ·split
     ·rename_i k7;obtain⟨a1,a2,a3,a4⟩:=FK ok hl (lo:=lo) (hi:=hi) (n:=nd) (k:=7) (many:=2) (.inl ⟨rfl,rfl⟩) hn;generalize x.made A8 lo hi nd 7 2=q at a1 a2 a3 a4 ⊢;split
      ·exact a1
      ·rename_i g;exact a1.trans (LF hl ks q.2.1 q.1 a1.ok (by rw[a4 (Classical.not_not.1 g),KF (.inl k7)];exact z1q _) a2 h2)
     ·split
      ·rename_i k89;obtain⟨a1,a2,a3,a4⟩:=FK ok hl (lo:=lo) (hi:=hi) (n:=nd) (k:=8) (many:=1) (.inr ⟨rfl,rfl⟩) hn;generalize x.made A8 lo hi nd 8 1=q at a1 a2 a3 a4 ⊢;split
       ·exact a1
       ·rename_i g;have k9:k=9:=by
         rcases k89 with h | h
         ·exact absurd (.inr h) g
         ·exact h
        have q0:q.2.2.2=0:=Classical.not_not.1 λh=>g (.inl h);refine a1.trans (LF hl ks _ q.1 a1.ok (by rw[zoq,a4 q0,KF (.inr k9)];exact z1q _) (λy hy=>?_) h2);rcases z8q.1 hy with hy | hy
        ·exact a2 y hy
        ·rw[z5q.1 hy];exact a3
      ·exact iE ok hn (by omega)
theorem LF{A8:Nat}(hl:A8<2 ^ 31):∀(ps:List F5)(ns:List Nat)(x:PS),x.s.Ok->ps.length<=ns.length->(∀n∈ns,n<x.s.l.length)->(∀p∈ps,p.pat=true)->QW x (DY A8 ps ns x).1
 |[],ns,x,ok,_,_,_=>by rw[DY];exact⟨ok,Y4.refl _,λg=>g⟩
 |p::ps,[],x,ok,J5,_,_=>by simp at J5
 |p::ps,n::ns,x,ok,J5,hn,hp=>by
   have a:=NB hl p n x ok (hn n (z4q ..)) (hp p (z4q ..));rw[kN];by_cases g:(BG A8 p n x).2≠0
   ·rw[C8 g];exact a
   ·rw[A7 g];exact a.trans (LF hl ps ns _ a.ok (by simpa using J5) (λm hm=>z0q (hn m (z2q _ hm)) a.ext.le) λq hq=>hp q (z2q _ hq))
end
end Go.Su

/-
 INFERENCE keeps the store right: expressions.
-/
namespace Go.Su
set_option linter.defProp false
def A8x{has must:Bool}{t:Ty}(h:XE has must t=true):(t.E8≠0->t.rc)/\(must=true->t.rc):=by
 unfold XE at h;split at h
 ·rename_i hn;refine⟨λhk=>?_,λhm=>by rw[hm]at h;cases h⟩;rw[Ty.A58]at hn;rw[hn]at hk;exact absurd rfl hk
 ·rw[zbq]at h;have:=h.2;unfold Ty.closed at this;rw[zbq]at this;exact⟨λ_=>this,λ_=>this⟩
variable {e:Ex}
def A1U(h:e.one=true):e.iC=true:=by unfold Ex.one Ex.yX Ex.yY Ex.yZ Ex.yc Ex.yf at h;simp only[zbq]at h;exact h.2.2.2.2.2.2
def Ex.kK(h:e.right=true):(e.a.E8≠0->e.a.rc)/\(e.E8=15->e.a.rc):=by have:=A1U (Ex.YD h);unfold Ex.iC at this;rw[zbq]at this;obtain⟨h1,h2⟩:=A8x this.1;exact⟨h1,λhk=>h2 (by unfold Ao;exact decide_eq_true hk)⟩
def Ex.A0P(h:e.right=true):e.b.E8≠0->e.b.rc:=by have:=A1U (Ex.YD h);unfold Ex.iC Ex.uE at this;simp only[zbq]at this;exact(A8x this.2.1).1
def Ex.A4s(h:e.right=true){p:F5}(hp:p∈e.J8):p.right=true:=by have:=A1U (Ex.YD h);unfold Ex.iC Ex.uE Ex.A1V at this;simp only[zbq,zBq]at this;exact this.2.2 p hp
def Ex.tY(h:e.right=true):1<=e.E8/\e.E8<=16/\(e.D6.length:Int)=O5 e.E8 e.J8.length:=by have:=Ex.YD h;unfold Ex.one Jf at this;simp only[zbq,I9]at this;exact⟨this.1.1.1.1.1,this.1.1.1.1.2,this.1.1.2⟩
def Ex.Cr{i:Nat}(h:i<e.D6.length):e.kd i∈e.D6:=by unfold Ex.kd;rw[z6q,z3q h];exact z9q h
theorem Ex.kF{i:Nat}(h:i<e.D6.length):e.D6[i]=e.kd i:=by unfold Ex.kd;rw[z6q,z3q h];rfl
def Cn(R:Rec)(e:Ex):Prop:=∀(A8:Nat)(l:List EN)(w:W),A8+e.size<2 ^ 30->l6 w->Z6 w.s.l.length l->(R e A8 l w).1.s.Ok/\Y4 w.s (R e A8 l w).1.s/\(R e A8 l w).2.1<(R e A8 l w).1.s.l.length/\DD.lt (R e A8 l w).1.s.l.length (R e A8 l w).2.2
section
variable {R:Rec}{w:W}{A8:Nat}{l:List EN}
def A5O(hR:Cn R e)(hl:A8+e.size<2 ^ 30)(h:l6 w)(hE:Z6 w.s.l.length l):Good w (J4 R w e A8 l).1/\(J4 R w e A8 l).2<(J4 R w e A8 l).1.s.l.length:=by
 unfold J4;split
 ·exact⟨Good.refl h,by have:=h.ok.five;simp only;omega⟩
 ·obtain⟨a,c,d,g⟩:=hR A8 l w hl h hE;refine⟨⟨⟨a,λx hx=>z0q (h.ty x hx) c.le,⟨λx hx=>z0q (h.vs.1 x hx) c.le,h.vs.2⟩,?_⟩,c⟩,d⟩;refine A1S.2 λk hk=>?_;rcases z8q.1 hk with hk | hk
  ·exact DD.A8v c.le k (A1S.1 h.ks k hk)
  ·rw[z5q.1 hk];exact g
def NE(w:W)(q:W×Nat):Prop:=Good w q.1/\q.2<q.1.s.l.length
def Good.n{w w1:W}{q:W×Nat}(h:Good w w1)(k:NE w1 q):NE w q:=⟨h.trans k.1,k.2⟩
def Good.lt{w w':W}(h:Good w w'){n:Nat}(hn:n<w.s.l.length):n<w'.s.l.length:=z0q hn h.ext.le
def U5(hR:Cn R e)(hl:A8+e.size<2 ^ 30)(h:l6 w)(hE:Z6 w.s.l.length l):NE w (J4 R w e A8 l):=A5O hR hl h hE
def B0T(h0:Cn R (e.kd 0))(h1:Cn R (e.kd 1))(l0:A8+(e.kd 0).size<2 ^ 30)(l1:A8+(e.kd 1).size<2 ^ 30)(h:l6 w)(hE:Z6 w.s.l.length l):NE w (Ox R w e A8 l):=by obtain⟨a1,a2⟩:=U5 h0 l0 h hE;unfold Ox;simp only;generalize J4 R w (e.kd 0) A8 l=a at a1 a2 ⊢;obtain⟨b1,b2⟩:=U5 h1 l1 a1.i (hE.mono a1.ext.le);generalize J4 R a.1 (e.kd 1) A8 l=b at b1 b2 ⊢;obtain⟨v1,v2⟩:=Ab b1.i (show A8<2 ^ 31 by omega);generalize b.1.fresh A8=v at v1 v2 ⊢;have t1:=Da v1 (l:=[v.2]) (by simpa using v2);have g1:=U4 t1.i (a:=a.2) (b:=v.2) (z0q (b1.lt a2) v1.ext.le) v2 (e.kd 0);generalize (v.1.Y2 [v.2]).agree a.2 v.2 (e.kd 0)=w1 at g1 ⊢;obtain⟨n1,n2⟩:=Dx g1.i (k:=8) (x:=v.2) (y:=0) (.inr (.inl rfl)) (g1.lt v2) (λh=>absurd rfl h);generalize w1.made 8 v.2 0=n at n1 n2 ⊢;have g2:=U4 n1.i (a:=b.2) (b:=n.2) (n1.lt (g1.lt (v1.lt b2))) n2 (e.kd 1);exact⟨((((a1.trans b1).trans t1).trans g1).trans n1).trans g2,g2.lt n2⟩
def dI{f a:Nat}(hl:A8<2 ^ 31)(h:l6 w)(fl:f<w.s.l.length)(al:a<w.s.l.length):NE w (WE w f a e A8):=by
 have f5:=h.ok.five;unfold WE;split
 ·exact⟨Good.refl h,by simp only;omega⟩
 split
 ·have g:=U4 h (a:=a) (b:=4) al (by omega) (e.kd 1);exact⟨g,g.lt (by omega)⟩
 split
 ·simp only
  obtain⟨v1,v2⟩:=Ab h hl;generalize w.fresh A8=v at v1 v2 ⊢;obtain⟨u1,u2⟩:=Ab v1.i hl;generalize v.1.fresh A8=u at u1 u2 ⊢;obtain⟨m1,m2⟩:=Dx u1.i (k:=9) (x:=v.2) (y:=u.2) (.inr (.inr rfl)) (u1.lt v2) (λ_=>u2);generalize u.1.made 9 v.2 u.2=m at m1 m2 ⊢;have g1:=U4 m1.i (a:=f) (b:=m.2) (m1.lt (u1.lt (v1.lt fl))) m2 (e.kd 0);have g2:=U4 g1.i (a:=a) (b:=v.2) (g1.lt (m1.lt (u1.lt (v1.lt al)))) (g1.lt (m1.lt (u1.lt v2))) (e.kd 1);exact⟨(((v1.trans u1).trans m1).trans g1).trans g2,g2.lt (g1.lt (m1.lt u2))⟩
 split
 ·rename_i k9;have kn:=h.ok.YP (h.ok.Hg fl);rw[k9]at kn;have kl:∀i,i<2->(w.s.I5 (w.s.root f)).getD i 0<w.s.l.length:=by
   intro i hi;have:i<(w.s.I5 (w.s.root f)).length:=by rw[kn];exact hi
   rw[z6q,z3q this];exact h.ok.NS fl (z9q this)
  have g:=U4 h (a:=a) (b:=(w.s.I5 (w.s.root f)).getD 0 0) al (kl 0 (by omega)) (e.kd 1);exact⟨g,g.lt (kl 1 (by omega))⟩
 ·exact⟨(Good.refl h).fails _ _,by rw[W9];simp only;omega⟩
def B2z(h0:Cn R (e.kd 0))(h1:Cn R (e.kd 1))(l0:A8+(e.kd 0).size<2 ^ 30)(l1:A8+(e.kd 1).size<2 ^ 30)(h:l6 w)(hE:Z6 w.s.l.length l):NE w (UN R w e A8 l):=by obtain⟨a1,a2⟩:=U5 h0 l0 h hE;unfold UN;simp only;generalize J4 R w (e.kd 0) A8 l=f at a1 a2 ⊢;obtain⟨b1,b2⟩:=U5 h1 l1 a1.i (hE.mono a1.ext.le);generalize J4 R f.1 (e.kd 1) A8 l=a at b1 b2 ⊢;exact(a1.trans b1).n (dI (by omega) b1.i (b1.lt a2) b2)
def B3h(h0:Cn R (e.kd 0))(h1:Cn R (e.kd 1))(l0:A8+1+(e.kd 0).size<2 ^ 30)(l1:A8+(e.kd 1).size<2 ^ 30)(ha:e.a.E8≠0->e.a.rc)(h:l6 w)(hE:Z6 w.s.l.length l):NE w (VD R w e A8 l):=by
 unfold VD;split
 ·rename_i k;obtain⟨a1,a2⟩:=U5 h0 (show A8+(e.kd 0).size<2 ^ 30 by omega) h hE;simp only;generalize J4 R w (e.kd 0) A8 l=a at a1 a2 ⊢;obtain⟨n1,n2⟩:=QM a1.i (ha k);generalize a.1.put e.a=n at n1 n2 ⊢;have g:=U4 n1.i (a:=a.2) (b:=n.2) (n1.lt a2) n2 (e.kd 0);have ag:=(a1.trans n1).trans g;exact ag.n (U5 h1 l1 g.i ((hE.mono ag.ext.le).app (Z6.one (g.lt n2))))
 split
 ·obtain⟨a1,a2⟩:=U5 h0 (A8:=A8+1) (by omega) h hE;simp only;generalize J4 R w (e.kd 0) (A8+1) l=a at a1 a2 ⊢;split
  ·exact a1.n (U5 h1 l1 a1.i ((hE.mono a1.ext.le).app (Z6.one a2)))
  ·obtain⟨c1,c2⟩:=Ba a1.i (n:=a.2) (A8:=A8) a2;generalize a.1.above a.2 A8=c at c1 c2 ⊢;have v:=Ho c1 c2;have av:=a1.trans v;exact av.n (U5 h1 l1 v.i ((hE.mono av.ext.le).app λx hx=>by rw[z5q.1 hx];exact⟨v.lt a2,c2.1⟩))
 ·obtain⟨a1,a2⟩:=U5 h0 (show A8+(e.kd 0).size<2 ^ 30 by omega) h hE;exact a1.n (U5 h1 l1 a1.i ((hE.mono a1.ext.le).app (Z6.one a2)))
def B3w(h0:Cn R (e.kd 0))(h1:Cn R (e.kd 1))(l0:A8+1+(e.kd 0).size<2 ^ 30)(l1:A8+(e.kd 1).size<2 ^ 30)(ha:e.a.E8≠0->e.a.rc)(hb:e.b.E8≠0->e.b.rc)(h:l6 w)(hE:Z6 w.s.l.length l):NE w (VM R w e A8 l):=by
 unfold VM;simp only;obtain⟨p1,p2⟩:=Qr h (A8:=A8+1) ha (by omega);generalize w.Ae e.a (A8+1)=p at p1 p2 ⊢;obtain⟨r1,r2⟩:=Qr p1.i (A8:=A8+1) hb (by omega);generalize p.1.Ae e.b (A8+1)=r at r1 r2 ⊢;obtain⟨f1,f2⟩:=Dx r1.i (k:=9) (x:=p.2) (y:=r.2) (.inr (.inr rfl)) (r1.lt p2) (λ_=>r2);generalize r.1.made 9 p.2 r.2=f at f1 f2 ⊢;have pf:=(p1.trans r1).trans f1;obtain⟨b1,b2⟩:=U5 h0 (A8:=A8+1) (l:=l++[⟨e.name,f.2,[]⟩,⟨e.arg,p.2,[]⟩]) (by omega) f1.i ((hE.mono pf.ext.le).app λx hx=>by
  simp only[zdq,zmq,or_false]at hx;rcases hx with rfl | rfl
  ·exact⟨f2,by simp⟩
  ·exact⟨f1.lt (r1.lt p2),by simp⟩)
 generalize J4 R f.1 (e.kd 0) (A8+1) (l++[⟨e.name,f.2,[]⟩,⟨e.arg,p.2,[]⟩])=b at b1 b2 ⊢;have g:=U4 b1.i (a:=b.2) (b:=r.2) b2 (b1.lt (f1.lt r2)) (e.kd 0);generalize b.1.agree b.2 r.2 (e.kd 0)=w1 at g ⊢;have pg:=(pf.trans b1).trans g;have fl:=g.lt (b1.lt f2);split
 ·exact pg.n (U5 h1 l1 g.i ((hE.mono pg.ext.le).app (Z6.one fl)))
 ·obtain⟨c1,c2⟩:=Ba g.i (n:=f.2) (A8:=A8) fl;generalize w1.above f.2 A8=c at c1 c2 ⊢;have v:=Ho c1 c2;have av:=pg.trans v;exact av.n (U5 h1 l1 v.i ((hE.mono av.ext.le).app λx hx=>by rw[z5q.1 hx];exact⟨v.lt fl,c2.1⟩))
def B0S(h0:Cn R (e.kd 0))(h1:Cn R (e.kd 1))(h2:Cn R (e.kd 2))(l0:A8+(e.kd 0).size<2 ^ 30)(l1:A8+(e.kd 1).size<2 ^ 30)(l2:A8+(e.kd 2).size<2 ^ 30)(h:l6 w)(hE:Z6 w.s.l.length l):NE w (Ow R w e A8 l):=by unfold Ow;simp only;obtain⟨c1,c2⟩:=U5 h0 l0 h hE;generalize J4 R w (e.kd 0) A8 l=c at c1 c2 ⊢;have g0:=U4 c1.i (a:=c.2) (b:=1) c2 (by have:=c1.i.ok.five;omega) (e.kd 0);have cg:=c1.trans g0;generalize c.1.agree c.2 1 (e.kd 0)=w0 at g0 cg ⊢;obtain⟨a1,a2⟩:=U5 h1 l1 g0.i (hE.mono cg.ext.le);generalize J4 R w0 (e.kd 1) A8 l=a at a1 a2 ⊢;have ca:=cg.trans a1;obtain⟨b1,b2⟩:=U5 h2 l2 a1.i (hE.mono ca.ext.le);generalize J4 R a.1 (e.kd 2) A8 l=b at b1 b2 ⊢;obtain⟨v1,v2⟩:=Ab b1.i (show A8<2 ^ 31 by omega);generalize b.1.fresh A8=v at v1 v2 ⊢;have t1:=Da v1 (l:=[v.2]) (by simpa using v2);have g1:=U4 t1.i (a:=a.2) (b:=v.2) (v1.lt (b1.lt a2)) v2 (e.kd 1);have g2:=U4 g1.i (a:=b.2) (b:=v.2) (g1.lt (v1.lt b2)) (g1.lt v2) (e.kd 2);exact⟨(((ca.trans b1).trans t1).trans g1).trans g2,g2.lt (g1.lt v2)⟩
def TE{r v:Nat}(hl:A8<2 ^ 31):∀(qs:List (F5×Ex))(w:W),(∀a∈qs,Cn R a.2/\A8+a.2.size<2 ^ 30/\a.1.pat=true)->l6 w->Z6 w.s.l.length l->v<w.s.l.length->r<w.s.l.length->NE w (Gd R A8 l v r qs w)
 |[],w,_,h,hE,hv,hr=>⟨Good.refl h,hr⟩
 | (p,k)::qs,w,ha,h,hE,hv,hr=>by
   obtain⟨h1,h2,h3⟩:=ha _ (z4q ..);rw[Gd];split
   ·exact⟨Good.refl h,by have:=h.ok.five;simp only;omega⟩
   ·simp only
    have P:=NB hl p v ⟨w.s,[],[],P9⟩ h.ok hv h3;generalize BG A8 p v ⟨w.s,[],[],P9⟩=q at P ⊢;have g0:Good w ({ w with s:=q.1.s }:W):=h.s (w':={ w with s:=q.1.s }) P.ok P.ext rfl rfl rfl;have g1:=g0.fails q.2 q.1.bad;have hs:(({ w with s:=q.1.s }:W).fails q.2 q.1.bad).s=q.1.s:=W9 ..;generalize ({ w with s:=q.1.s }:W).fails q.2 q.1.bad=w1 at g1 hs ⊢;have MZ:Z6 w1.s.l.length (l++if q.2≠0 then[]else List.zipWith (λs n=>(⟨s,n,[]⟩:EN)) q.1.names q.1.nodes):=by
     refine(hE.mono g1.ext.le).app ?_;split
     ·intro x hx;cases hx
     ·intro x hx;obtain⟨j,hj,rfl⟩:=zkq.1 hx;simp only[zwq]at hj;rw[zvq];exact⟨by rw[hs];exact P.nd (by simp) _ (z9q (by omega)),by simp⟩
    obtain⟨b1,b2⟩:=U5 h1 h2 g1.i MZ;generalize J4 R w1 k A8 (l++if q.2≠0 then[]else List.zipWith (λs n=>(⟨s,n,[]⟩:EN)) q.1.names q.1.nodes)=b at b1 b2 ⊢;have g2:=U4 b1.i (a:=b.2) (b:=r) b2 (b1.lt (g1.lt hr)) k;have gg:=(g1.trans b1).trans g2;exact gg.n (TE hl qs _ (λa h=>ha a (z2q _ h)) g2.i (hE.mono gg.ext.le) (gg.lt hv) (gg.lt hr))
def A9X(h0:Cn R (e.kd 0))(hk:∀k∈e.D6,Cn R k/\A8+k.size<2 ^ 30)(hp:∀p∈e.J8,p.pat=true)(l0:A8+(e.kd 0).size<2 ^ 30)(h:l6 w)(hE:Z6 w.s.l.length l):NE w (LD R w e A8 l):=by unfold LD;simp only;obtain⟨a1,a2⟩:=U5 h0 l0 h hE;generalize J4 R w (e.kd 0) A8 l=a at a1 a2 ⊢;obtain⟨v1,v2⟩:=Ab a1.i (show A8<2 ^ 31 by omega);generalize a.1.fresh A8=v at v1 v2 ⊢;have g:=U4 v1.i (a:=a.2) (b:=v.2) (v1.lt a2) v2 (e.kd 0);generalize v.1.agree a.2 v.2 (e.kd 0)=w0 at g ⊢;obtain⟨r1,r2⟩:=Ab g.i (show A8<2 ^ 31 by omega);generalize w0.fresh A8=r at r1 r2 ⊢;have t:=Da r1 (l:=[v.2,r.2]) (by intro x hx;simp only[zdq,zmq,or_false]at hx;rcases hx with rfl | rfl;exact r1.lt (g.lt v2);exact r2);have gg:=(((a1.trans v1).trans g).trans t);refine gg.n (TE (by omega) _ _ (λx hx=>?_) t.i (hE.mono gg.ext.le) (t.lt (g.lt v2)) r2);have:=zlq hx;obtain⟨k1,k2⟩:=hk x.2 (zzq this.2);exact⟨k1,k2,hp x.1 this.1⟩
def yg{want:Nat}(hw:want<5):∀(ks:List Ex)(w:W),(∀k∈ks,Cn R k/\A8+k.size<2 ^ 30)->l6 w->Z6 w.s.l.length l->Good w (LZ R A8 l want ks w)
 |[],w,_,h,_=>Good.refl h
 |k::ks,w,hk,h,hE=>by obtain⟨h1,h2⟩:=hk k (z4q ..);obtain⟨a1,a2⟩:=U5 h1 h2 h hE;rw[LZ];have g:=U4 a1.i (a:=(J4 R w k A8 l).2) (b:=want) a2 (by have:=a1.i.ok.five;omega) k;have ag:=a1.trans g;exact ag.trans (yg hw ks _ (λx hx=>hk x (z2q _ hx)) g.i (hE.mono ag.ext.le))
def B0N(hr:e.right=true)(hk:∀k∈e.D6,Cn R k)(hl:A8+e.size<2 ^ 30)(h:l6 w)(hE:Z6 w.s.l.length l):NE w (U0 R w e A8 l):=by
 obtain⟨k1,k2,k3⟩:=Ex.tY hr;have f5:=h.ok.five;have sz:∀k∈e.D6,A8+1+k.size<2 ^ 30:=λk hk=>by have:=Ex.FR hk;omega
 have kd:∀i,i<e.D6.length->Cn R (e.kd i)/\A8+1+(e.kd i).size<2 ^ 30/\A8+(e.kd i).size<2 ^ 30:=λi hi=>by have m:=Ex.Cr hi;have:=sz _ m;exact⟨hk _ m,this,by omega⟩
 have na:=Ex.kK hr;have nb:=Ex.A0P hr;have lb:A8<2 ^ 31:=by omega
 unfold U0;by_cases g:e.E8=1
 ·rw[C8 g];exact uC h lb hE
 rw[A7 g];by_cases g:e.E8=2\/e.E8=3\/e.E8=4\/e.E8=5
 ·rw[C8 g];exact⟨Good.refl h,by simp only;omega⟩
 rw[A7 g];by_cases g:e.E8=6
 ·rw[C8 g];have n2:e.D6.length=2:=by simp[g,O5]at k3;omega
  obtain⟨x1,x2,x3⟩:=kd 0 (by omega);obtain⟨y1,y2,y3⟩:=kd 1 (by omega);obtain⟨a1,a2⟩:=U5 x1 x3 h hE;simp only;generalize J4 R w (e.kd 0) A8 l=a at a1 a2 ⊢;obtain⟨b1,b2⟩:=U5 y1 y3 a1.i (hE.mono a1.ext.le);generalize J4 R a.1 (e.kd 1) A8 l=b at b1 b2 ⊢;exact(a1.trans b1).n (Dx b1.i (k:=7) (.inl rfl) (b1.lt a2) (λ_=>b2))
 rw[A7 g];by_cases g:e.E8=7
 ·rw[C8 g];obtain⟨v1,v2⟩:=Ab h lb;generalize w.fresh A8=v at v1 v2 ⊢;have t1:=Da v1 (l:=[v.2]) (by simpa using v2);exact t1.n (Dx t1.i (k:=8) (.inr (.inl rfl)) v2 (λh=>absurd rfl h))
 rw[A7 g];by_cases g:e.E8=8
 ·rw[C8 g];have n2:e.D6.length=2:=by simp[g,O5]at k3;omega
  obtain⟨x1,x2,x3⟩:=kd 0 (by omega);obtain⟨y1,y2,y3⟩:=kd 1 (by omega);exact B0T x1 y1 x3 y3 h hE
 rw[A7 g];by_cases g:e.E8=9
 ·rw[C8 g];have n1:e.D6.length=1:=by simp[g,O5]at k3;omega
  obtain⟨x1,x2,x3⟩:=kd 0 (by omega);obtain⟨p1,p2⟩:=Qr h (A8:=A8) na.1 lb;simp only;generalize w.Ae e.a A8=p at p1 p2 ⊢;obtain⟨b1,b2⟩:=U5 x1 x3 p1.i ((hE.mono p1.ext.le).app (Z6.one (s:=e.name) p2));exact(p1.trans b1).n (Dx b1.i (k:=9) (.inr (.inr rfl)) (b1.lt p2) (λ_=>b2))
 rw[A7 g];by_cases g:e.E8=10
 ·rw[C8 g];have n2:e.D6.length=2:=by simp[g,O5]at k3;omega
  obtain⟨x1,x2,x3⟩:=kd 0 (by omega);obtain⟨y1,y2,y3⟩:=kd 1 (by omega);exact B2z x1 y1 x3 y3 h hE
 rw[A7 g];by_cases g:e.E8=11
 ·rw[C8 g];have n2:e.D6.length=2:=by simp[g,O5]at k3;omega
  obtain⟨x1,x2,x3⟩:=kd 0 (by omega);obtain⟨y1,y2,y3⟩:=kd 1 (by omega);exact B3h x1 y1 x2 y3 na.1 h hE
 rw[A7 g];by_cases g:e.E8=12
 ·rw[C8 g];have n2:e.D6.length=2:=by simp[g,O5]at k3;omega
  obtain⟨x1,x2,x3⟩:=kd 0 (by omega);obtain⟨y1,y2,y3⟩:=kd 1 (by omega);exact B3w x1 y1 x2 y3 na.1 nb h hE
 rw[A7 g];by_cases g:e.E8=13
 ·rw[C8 g];have n3:e.D6.length=3:=by simp[g,O5]at k3;omega
  obtain⟨x1,x2,x3⟩:=kd 0 (by omega);obtain⟨y1,y2,y3⟩:=kd 1 (by omega);obtain⟨z1,z2,z3⟩:=kd 2 (by omega);exact B0S x1 y1 z1 x3 y3 z3 h hE
 rw[A7 g];by_cases g:e.E8=14
 ·rw[C8 g];have n1:0<e.D6.length:=by simp[g,O5]at k3;omega
  obtain⟨x1,x2,x3⟩:=kd 0 n1;refine A9X x1 (λk FF=>⟨hk k FF,by have:=sz k FF;omega⟩) (λp hp=>?_) x3 h hE;have:=Ex.A4s hr hp;unfold F5.right at this;rw[zbq]at this;exact this.1
 rw[A7 g];by_cases g:e.E8=15
 ·rw[C8 g];have n1:e.D6.length=1:=by simp[g,O5]at k3;omega
  obtain⟨x1,x2,x3⟩:=kd 0 (by omega);obtain⟨a1,a2⟩:=U5 x1 x3 h hE;simp only;generalize J4 R w (e.kd 0) A8 l=a at a1 a2 ⊢;obtain⟨n1,n2⟩:=QM a1.i (na.2 g);generalize a.1.put e.a=n at n1 n2 ⊢;have g:=U4 n1.i (a:=a.2) (b:=n.2) (n1.lt a2) n2 (e.kd 0);exact⟨(a1.trans n1).trans g,g.lt n2⟩
 ·rw[A7 g];have g:=yg (R:=R) (A8:=A8) (l:=l) (want:=if e.op=7 then 2 else 0) (by split<;>omega) e.D6 w (λk FF=>⟨hk k FF,by have:=sz k FF;omega⟩) h hE;exact⟨g,g.lt (by simp only;split<;>omega)⟩
end
def Ir:∀(f:Nat)(e:Ex),e.right=true->Cn (N9 f) e
 |0,e,hr=>λA8 l w hl h hE=>⟨h.ok,Y4.refl _,by have:=h.ok.five;simp only[N9];omega,by simp only[N9,DD.lt,DD.Yu];have:=h.ok.five;exact⟨by omega,by simp,⟨by simp,by simp⟩,trivial⟩⟩
 |f+1,e,hr=>λA8 l w hl h hE=>by have h0:l6 { w with types:=[],vars:=[],D6:=[] }:=⟨h.ok,by simp,⟨by simp,by simp⟩,trivial⟩;obtain⟨a1,a2⟩:=B0N (R:=N9 f) (A8:=A8) (l:=l) hr (λk hk=>Ir f k (Ex.Hf hr hk)) hl h0 hE;rw[N9];simp only;generalize U0 (N9 f) { w with types:=[],vars:=[],D6:=[] } e A8 l=q at a1 a2 ⊢;exact⟨a1.i.ok,a1.ext,a2,by rw[DD.lt];exact⟨a2,a1.i.ty,a1.i.vs,a1.i.ks⟩⟩
end Go.Su

/-
 INFERENCE: what is read.
-/
namespace Go.Su
set_option linter.defProp false
def zB{m:Nat}:∀(ts:List NT)(k:Nat),k<=m+1->k<=NT.IR m ts k
 |[],k,_=>by rw[NT.IR];exact z1q _
 |t::ts,k,h=>by rw[NT.IR];refine z7q ?_ (zB ts _ (zFq ..));omega
def B19(m:Nat)(t:NT):1<=t.Bh m:=by cases t;rw[NT.Bh];exact zB _ _ (by omega)
def B3P{m:Nat}(t:NT):t.Bh m<=m->t.ty.size=t.Bh m:=by
 induction t using NT.ind with
 |h r k ts ih=>
   intro h;rw[NT.Bh]at h ⊢;rw[NT.ty,NT.A7c,Ty.size_eq,Ty.X0];have key:∀(us:List NT),(∀u∈us,u∈ts)->∀c,c<=m+1->NT.IR m us c<=m->NT.IR m us c=c+((us.map NT.ty).map Ty.size).sum:=by
    intro us;induction us with
    |nil=>intro _ c _ _;simp[NT.IR]
    |cons u us ihu=>
      intro hs c hc J5;rw[NT.IR]at J5 ⊢;have g:=zB us (min (c+u.Bh m) (m+1)) (zFq ..);have hm:c+u.Bh m<=m:=by omega
      have e:min (c+u.Bh m) (m+1)=c+u.Bh m:=by omega
      rw[e]at J5 ⊢;rw[ihu (λw hw=>hs w (z2q _ hw)) _ (by omega) J5,zeq,zeq,zfq,ih u (hs u (z4q ..)) (by omega)];omega
   exact(key ts (λu hu=>hu) 1 (by omega) h).symm
namespace W
noncomputable def rd(w:W)(n:Nat):W:=({ w with s:=(w.s.read n).1 }:W).fails (w.s.read n).2.2 P9
end W
def vM{S:E9}(ok:S.Ok)(n:Nat):(S.read n).1.Ok/\(S.read n).1.l=S.l/\(S.read n).1.J7=S.J7/\S.cnt<=(S.read n).1.cnt/\((S.read n).2.2=0->S.cnt+1<=(S.read n).1.cnt/\(S.read n).2.1.size<=65536/\(S.read n).2.1=(S.L6 n).ty):=by
 have h1:=ok.cm;have h2:=ok.mm;unfold E9.read;split
 ·exact⟨ok,rfl,rfl,z1q _,λh=>by simp at h⟩
 ·rename_i g;have p:=B19 (S.mx-S.cnt) (S.L6 n);refine⟨⟨λk hk=>?_,ok.base,?_,?_,ok.mm,ok.ki⟩,rfl,rfl,by simp,λ_=>⟨by simp only;omega,?_,rfl⟩⟩
  ·obtain⟨t,ht⟩:=ok.wf k hk;exact⟨t,ht.like (show Z0 S { S with cnt:=S.cnt+(S.L6 n).Bh (S.mx-S.cnt) }from Z0.refl S)⟩
  ·have:=ok.lc;simp only;omega
  ·simp only;omega
  ·simp only
   rw[B3P (m:=S.mx-S.cnt) _ (zSq.1 g)];omega
def ZW{w:W}(ok:w.s.Ok)(n:Nat):(w.rd n).s.Ok/\(w.rd n).s.l=w.s.l/\w.s.cnt<=(w.rd n).s.cnt/\((w.rd n).err=0->w.err=0/\(w.s.read n).2.2=0/\w.s.cnt+1<=(w.rd n).s.cnt):=by
 obtain⟨r1,r2,r3,r4,r5⟩:=vM ok n;unfold W.rd;rw[W9];refine⟨r1,r2,r4,λh=>?_⟩;unfold W.fails at h;split at h
 ·rename_i g;exact absurd h g.2
 ·rename_i g;have h0:w.err=0:=h;have e0:(w.s.read n).2.2=0:=Classical.not_not.1 λh=>g ⟨h0,h⟩;exact⟨h0,e0,(r5 e0).1⟩
mutual
def DD.cnt:DD->Nat
 |.mk _ _ _ ks=>1+DD.EC ks
def DD.EC:List DD->Nat
 |[]=>0
 |k::ks=>k.cnt+DD.EC ks
end
def lI:∀ks:List DD,ks.length<=DD.EC ks
 |[]=>z1q _
 |k::ks=>by
   have:=lI ks;have:1<=k.cnt:=by cases k;rw[DD.cnt];omega
   rw[DD.EC,zqq];omega
structure Yd(w w':W):Prop where
 ok:w'.s.Ok
 l:w'.s.l=w.s.l
 cnt:w.s.cnt<=w'.s.cnt
def Yd.trans{a b c:W}(h:Yd a b)(k:Yd b c):Yd a c:=⟨k.ok,k.l.trans h.l,z7q h.cnt k.cnt⟩
mutual
theorem NA:∀(d:DD)(w:W),w.s.Ok->Yd w (V7 d w)/\((V7 d w).err=0->w.err=0/\w.s.cnt+d.cnt<=(V7 d w).s.cnt)
 |.mk n ts vs ks,w,ok=>by
   rw[V7,DD.cnt];split
   ·rename_i g;exact⟨⟨ok,rfl,z1q _⟩,λh=>absurd h g⟩
   ·obtain⟨a1,a2,a3,a4⟩:=ZW ok n;have e:(({ w with s:=(w.s.read n).1 }:W).fails (w.s.read n).2.2 P9)=w.rd n:=rfl;rw[e];obtain⟨c1,c2⟩:=X_ ks (w.rd n) a1;refine⟨(⟨a1,a2,a3⟩:Yd w (w.rd n)).trans c1,λh=>?_⟩;obtain⟨d1,d2⟩:=c2 h;obtain⟨f1,f2,f3⟩:=a4 d1;exact⟨f1,by omega⟩
theorem X_:∀(ks:List DD)(w:W),w.s.Ok->Yd w (Ei ks w)/\((Ei ks w).err=0->w.err=0/\w.s.cnt+DD.EC ks<=(Ei ks w).s.cnt)
 |[],w,ok=>by rw[Ei,DD.EC];exact⟨⟨ok,rfl,z1q _⟩,λh=>⟨h,z1q _⟩⟩
 |k::ks,w,ok=>by rw[Ei,DD.EC];obtain⟨a1,a2⟩:=NA k w ok;obtain⟨c1,c2⟩:=X_ ks _ a1.ok;refine⟨a1.trans c1,λh=>?_⟩;obtain⟨d1,d2⟩:=c2 h;obtain⟨e1,e2⟩:=a2 d1;exact⟨e1,by omega⟩
end
inductive Sj:J6->Prop where
 |mk (d:J6):(∀t∈d.types,t.size<=65536)->d.types.length<=70000->d.vars.length<2 ^ 29->d.D6.length<=70000->(∀k∈d.D6,Sj k)->Sj d
def Wh:∀(ts:List Nat)(w:W),w.s.Ok->Yd w (X9 ts w).1/\((X9 ts w).1.err=0->w.err=0/\w.s.cnt+(X9 ts w).2.length<=(X9 ts w).1.s.cnt/\∀t∈(X9 ts w).2,t.size<=65536)
 |[],w,ok=>⟨⟨ok,rfl,z1q _⟩,λh=>⟨h,z1q _,by simp[X9]⟩⟩
 |n::ts,w,ok=>by
   rw[X9];split
   ·rename_i g;exact⟨⟨ok,rfl,z1q _⟩,λh=>absurd h g⟩
   ·obtain⟨a1,a2,a3,a4⟩:=ZW ok n;have e:(({ w with s:=(w.s.read n).1 }:W).fails (w.s.read n).2.2 P9)=w.rd n:=rfl;rw[e];obtain⟨c1,c2⟩:=Wh ts (w.rd n) a1;refine⟨(⟨a1,a2,a3⟩:Yd w (w.rd n)).trans c1,λh=>?_⟩;obtain⟨d1,d2,d3⟩:=c2 h;obtain⟨f1,f2,f3⟩:=a4 d1;refine⟨f1,by simp only[zqq];omega,λt ht=>?_⟩;rcases zdq.1 ht with rfl | ht
    ·exact((vM ok n).2.2.2.2 f2).2.1
    ·exact d3 t ht
mutual
theorem yx:∀(d:DD)(w:W)(n:Nat),w.s.Ok->DD.lt n d->d.cnt<=70000->Yd w (X3 d w).1/\(w.err≠0->(X3 d w).1=w)/\((X3 d w).1.err=0->w.err=0/\Sj (X3 d w).2)
 |.mk m ts vs ks,w,n,ok,hl,hc=>by
   rw[X3];rw[DD.lt]at hl;rw[DD.cnt]at hc;obtain⟨a1,a2⟩:=Wh ts w ok;obtain⟨c1,c0,c2⟩:=A6t ks (X9 ts w).1 n a1.ok hl.2.2.2 (by omega);refine⟨a1.trans c1,λh=>?_,λh=>?_⟩
   ·have e:(X9 ts w).1=w:=by
     cases ts with
     |nil=>rfl
     |cons x ts=>rw[X9,C8 h]
    simp only;rw[e];rw[e]at c0;exact c0 h
   ·obtain⟨d1,d2⟩:=c2 h;obtain⟨e1,e2,e3⟩:=a2 d1;have:=a1.ok.cm;have:=a1.ok.mm;have:=lI ks;exact⟨e1,.mk _ e3 (by simp only[J6.zF];omega) (by simp only[J6.A8W,y0q];exact hl.2.2.1.2) (by simp only[J6.X0];omega) d2.2⟩
theorem A6t:∀(ks:List DD)(w:W)(n:Nat),w.s.Ok->DD.Yu n ks->DD.EC ks<=70000->Yd w (Af ks w).1/\(w.err≠0->(Af ks w).1=w)/\((Af ks w).1.err=0->w.err=0/\(Af ks w).2.length<=ks.length/\∀k∈(Af ks w).2,Sj k)
 |[],w,n,ok,_,_=>⟨⟨ok,rfl,z1q _⟩,λ_=>rfl,λh=>⟨h,z1q _,by simp[Af]⟩⟩
 |k::ks,w,n,ok,hl,hc=>by
   rw[Af];rw[DD.Yu]at hl;rw[DD.EC]at hc;split
   ·rename_i g;exact⟨⟨ok,rfl,z1q _⟩,λ_=>rfl,λh=>absurd h g⟩
   ·rename_i g;obtain⟨a1,a0,a2⟩:=yx k w n ok hl.1 (by omega);obtain⟨c1,c0,c2⟩:=A6t ks (X3 k w).1 n a1.ok hl.2 (by omega);refine⟨a1.trans c1,λh=>absurd h g,λh=>?_⟩;obtain⟨d1,d2,d3⟩:=c2 h;obtain⟨e1,e2⟩:=a2 d1;refine⟨e1,by simp only[zqq];omega,λx hx=>?_⟩;rcases zdq.1 hx with rfl | hx
    ·exact e2
    ·exact d3 x hx
end
end Go.Su

/-
 HOW MANY ROUNDS an inference can take: what is unknown (?) within a node never changes, and bounds them.
-/
namespace Go.Su
set_option linter.defProp false
mutual
def NT.dn:NT->Nat
 |.mk _ k ts=>(if k=5 then 1 else 0)+NT.Ev ts
def NT.Ev:List NT->Nat
 |[]=>0
 |t::ts=>t.dn+NT.Ev ts
end
noncomputable def E9.dn(S:E9)(n:Nat):Nat:=(S.L6 n).dn
noncomputable def E9.AZ(S:E9):Nat:=S.uv+(S.mx-S.cnt)
variable (t:NT)
theorem NT.A4j:t.dn=(if t.k=5 then 1 else 0)+NT.Ev t.D6:=by cases t;rw[NT.dn];rfl
def A4M:∀{ts:List NT},(∀t∈ts,t.dn=0)->NT.Ev ts=0
 |[],_=>by rw[NT.Ev]
 |t::ts,h=>by rw[NT.Ev,h t (z4q ..),A4M λu hu=>h u (z2q _ hu)]
def A8g{g:NT->NT}:∀{ts:List NT},(∀t∈ts,(g t).dn=t.dn)->NT.Ev (ts.map g)=NT.Ev ts
 |[],_=>by rw[zOq]
 |t::ts,h=>by rw[zeq,NT.Ev,NT.Ev,h t (z4q ..),A8g λu hu=>h u (z2q _ hu)]
variable {S:E9}
def B4K(ok:S.Ok)(t:NT):∀n,U8 S n t->4∉t.all->t.dn=0:=by
 induction t using NT.ind with
 |h q k ts ih=>
   intro n h h4;obtain⟨d,d1,d2,d3,d4,d5⟩:=h.nd;simp only[NT.Jm,NT.WW,NT.X0]at d1 d3 d4 d5;rw[NT.dn,A7,A4M]
   ·intro t ht;obtain⟨i,hi,rfl⟩:=zDq ht;exact ih _ ht _ (d5 i (by omega) hi) λhx=>h4 (NT.Au.2 (.inr ⟨_,ht,hx⟩))
   ·intro h5;have:=(ok.ki _ d d1).2.2.2.2 (by omega);exact h4 (NT.Au.2 (.inl (by simp only[NT.Jm];omega)))
variable {n:Nat}
def E9.Ok.dn0(ok:S.Ok)(hn:n<S.l.length)(h:4∉S.roots n):S.dn n=0 :=B4K ok _ n (ok.L6 hn) λg=>h ((ok.CP hn).2 g)
def E9.Ok.dn6(ok:S.Ok)(hn:n<S.l.length)(h:S.F9 (S.root n)=6):S.L6 n=.mk (S.root n) 6 []:=by obtain⟨d,d1,d2,d3,d4,d5⟩:=(ok.L6 hn).nd;have e:S.root n=(S.L6 n).r:=rfl;have k:=(ok.ki _ d d1).1;rw[e,Dv d1]at h;rw[h]at k d3;have:(S.L6 n).D6=[]:=zaq.1 (by rw[<- d4,k];rfl);rw[e];generalize S.L6 n=t at this d3 ⊢;cases t;simp only[NT.WW,NT.X0,NT.Jm]at this d3 ⊢;rw[this,<- d3]
def B5d(ok:S.Ok){r:Nat}{u:NT}(h6:S.F9 r=6)(hu:u.dn=0)(t:NT):∀n,U8 S n t->(NT.yn r u t).dn=t.dn:=by
 induction t using NT.ind with
 |h q k ts ih=>
   intro n h;rw[NT.yn];split
   ·rename_i e;have hn:=h.lt;have:=ok.dn6 hn (by rw[h.Hl];simp only[NT.Jm];rw[e];exact h6);rw[h.eq]at this;rw[this,hu];simp[NT.dn,NT.Ev]
   ·obtain⟨d,d1,d2,d3,d4,d5⟩:=h.nd;simp only[NT.Jm,NT.WW,NT.X0]at d1 d3 d4 d5;rw[NT.dn,NT.dn,yo,A8g];intro t ht;obtain⟨i,hi,rfl⟩:=zDq ht;exact ih _ ht _ (d5 i (by omega) hi)
def AR(S T:E9):Prop:=∀n,n<S.l.length->T.dn n=S.dn n
theorem AR.refl(S:E9):AR S S:=λn _=>rfl
def AR.trans{T U:E9}(le:S.l.length<=T.l.length)(h:AR S T)(k:AR T U):AR S U:=λn hn=>(k n (by omega)).trans (h n hn)
def AR.like{T:E9}(ok:S.Ok)(L:Z0 S T):AR S T:=λn hn=>by unfold E9.dn;rw[((ok.L6 hn).like L).eq]
def AR.link(ok:S.Ok){v:Nat}(hv:v<S.l.length)(hn:n<S.l.length)(h0:S.dn n=0):AR S (S.link v n).1:=by
 unfold E9.link;split
 ·exact AR.refl S
 ·rename_i h;split
  ·exact .like ok (Z0.tick S)
  ·rename_i hw;have h6:S.F9 (S.root v)=6:=Classical.not_not.1 λg=>h (.inl g);obtain⟨d,d1,d2,-,-,d5,-⟩:=ok.nd hv;have ok2:=Xx ok hv hn h6 hw;refine AR.trans (T:=S.tick.BM (S.root v) (S.root n)) (by simp[E9.BM,E9.tick]) (λx hx=>?_) (.like ok2 (Z0.lower _ _ _));have:U8 (S.tick.BM (S.root v) (S.root n)) x (NT.yn (S.root v) (S.L6 n) (S.L6 x)):=U8.link (S:=S.tick) d1 d2 (ok.L6 hn).self.tick (λhx=>hw ((ok.CP hn).2 hx)) _ x (ok.L6 hx).tick;unfold E9.dn;rw[this.eq];exact B5d ok h6 h0 _ x (ok.L6 hx)
def A7e(S:E9)(d:Nd):(S.add d).uv=S.uv+if Md d then 1 else 0:=by unfold E9.uv E9.add;rw[List.countP_append,List.countP_singleton]
def A8B(ok:S.Ok)(A8:Nat):(S.var A8).1.AZ<=S.AZ:=by
 unfold E9.var;split
 ·exact z1q _
 ·have:=ok.cm;simp only[E9.AZ,A7e,Md];simp only[E9.add];simp;omega
def B5e(ok:S.Ok)(k A8:Nat)(l:List Nat)(hk:k≠6)(h:S.cnt<S.mx):(S.add ⟨k,A8,none,l⟩).AZ<S.AZ:=by simp only[E9.AZ,A7e,Md,beq_iff_eq,hk,zbq,false_and,G8];simp only[E9.add];omega
def yw(ok:S.Ok)(k a b:Nat)(hk:k≠6):(S.make k a b).1.AZ<=S.AZ/\((S.make k a b).2.2=0->(S.make k a b).1.AZ<S.AZ):=by
 unfold E9.make;split
 ·exact⟨z1q _,λh=>by simp at h⟩
 ·have:=ok.cm;have:=B5e ok k 0 (if k=8 then[a]else[a,b]) hk (by omega);exact⟨zEq this,λ_=>this⟩
def uF{A8:Nat}(hl:A8<2 ^ 31):∀(k:Nat)(S:E9),S.Ok->(E9.fresh A8 k S).1.AZ<=S.AZ
 |0,S,ok=>z1q _
 |k+1,S,ok=>by
   rw[E9.fresh];have:=A8B ok A8;split
   ·exact z7q (uF hl k _ (Ms ok hl).1) this
   ·exact this
def yu(ok:S.Ok){v:Nat}(hv:v<S.l.length)(hn:n<S.l.length):(S.link v n).1.AZ<=S.AZ/\((S.link v n).2=0->(S.link v n).1.AZ<S.AZ):=by
 have L:=Zh ok hv hn;have a:(S.link v n).2=0->(S.link v n).1.AZ<S.AZ:=λh=>by have:=L.uv h;unfold E9.AZ;rw[L.mx,L.cnt];omega
 refine⟨?_,a⟩;by_cases e:(S.link v n).2=0
 ·exact zEq (a e)
 ·unfold E9.link at e ⊢;split
  ·exact z1q _
  ·rename_i g;rw[A7 g]at e;split
   ·exact z1q _
   ·rename_i g;rw[A7 g]at e;simp at e
def B09(ok:S.Ok){A8:Nat}(hl:A8<2 ^ 31):(S.var A8).1.dn (S.var A8).2.1=0:=by
 have h:=(Ms ok hl).1;unfold E9.var at h ⊢;split
 ·have:U8 S 0 (.mk 0 1 []):=.mk (.here (ok.base 0 (by omega)) rfl) (ok.base 0 (by omega)) rfl (λi a _=>by simp at a);simp only[E9.dn];rw[this.eq];simp[NT.dn,NT.Ev]
 ·rename_i g;rw[A7 g]at h;simp only at h ⊢;have e:(S.add ⟨6,A8,none,[]⟩).l[S.l.length]?=some ⟨6,A8,none,[]⟩:=by simp[E9.add]
  have:U8 (S.add ⟨6,A8,none,[]⟩) S.l.length (.mk S.l.length 6 []):=.mk (.here e rfl) e rfl (λi a _=>by simp at a);simp only[E9.dn];rw[this.eq];simp[NT.dn,NT.Ev]
def yQ(ok:S.Ok){j:Nat}(hj:j<5):U8 S j (.mk j (j+1) []):=.mk (.here (ok.base j hj) rfl) (ok.base j hj) rfl (λi a _=>by simp at a)
def BU(ok:S.Ok){j:Nat}(hj:j<4):S.dn j=0:=by unfold E9.dn;rw[(yQ ok (by omega)).eq];simp[NT.dn,NT.Ev];omega
def nE(ok:S.Ok):S.dn 4=1:=by unfold E9.dn;rw[(yQ ok (by omega)).eq];simp[NT.dn,NT.Ev]
def x_{A8:Nat}(hl:A8<2 ^ 31):∀(k:Nat)(S:E9),S.Ok->∀x∈(E9.fresh A8 k S).2.1,(E9.fresh A8 k S).1.dn x=0
 |0,S,ok=>λx hx=>by simp[E9.fresh]at hx
 |k+1,S,ok=>by
   obtain⟨a1,a2,-,a4,-⟩:=Ms ok hl;rw[E9.fresh];split
   ·intro x hx;rcases zdq.1 hx with rfl | hx
    ·have:=AR.like a1 (ET hl k _ a1).2.1.like _ a4;simp only[this];exact B09 ok hl
    ·exact x_ hl k _ a1 x hx
   ·intro x hx;cases hx
def zx(ok:S.Ok){k A8:Nat}{l:List Nat}(h:S.l[n]?=some ⟨k,A8,none,l⟩):S.dn n=(if k=5 then 1 else 0)+(l.map S.dn).sum:=by
 have hn:n<S.l.length:=(List.getElem?_eq_some_iff.1 h).1;have hr:X5 S n n:=.here h rfl;have u:=ok.L6 hn;have rn:=hr.eq ⟨_,u⟩;obtain⟨d,d1,d2,d3,d4,d5⟩:=u.nd;have e:(S.L6 n).r=n:=rn;rw[e,h]at d1;cases d1;unfold E9.dn;rw[NT.A4j,<- d3];simp only at d4 d5 ⊢;congr 1;generalize (S.L6 n).D6=ts at d4 d5;clear h hr u rn d2 d3 e;induction l generalizing ts with
 |nil=>cases ts with | nil=>rfl | cons _ _=>simp at d4
 |cons a l ih=>
   cases ts with
   |nil=>simp at d4
   |cons t ts=>have h0:=d5 0 (by simp) (by simp);simp only[zGq]at h0;rw[NT.Ev,zeq,zfq,h0.eq,ih ts (by simpa using d4) λi a b=>by have:=d5 (i+1) (by simp;omega) (by simp;omega);simpa using this]
def A1i(ok:S.Ok){k a b:Nat}(hk:k=7\/k=8\/k=9)(ha:a<S.l.length)(hb:k≠8->b<S.l.length):(S.make k a b).1.dn (S.make k a b).2.1<=S.dn a+S.dn b:=by
 obtain⟨h1,h2,-⟩:=GK ok hk ha hb;have D:=AR.like ok h2.like;unfold E9.make at h1 D ⊢;split
 ·simp only;rw[BU ok (by omega)];omega
 ·rename_i g;rw[A7 g]at h1 D;simp only at h1 D ⊢;have e:(S.add ⟨k,0,none,if k=8 then[a]else[a,b]⟩).l[S.l.length]?=some ⟨k,0,none,if k=8 then[a]else[a,b]⟩:=by simp[E9.add]
  rw[zx h1 e,A7 (by omega)];split
  ·rename_i h8;rw[C8 h8]at D;simp only[zeq,zOq,zfq,zWq];rw[D a ha];omega
  ·rename_i h8;rw[A7 h8]at D;simp only[zeq,zOq,zfq,zWq];rw[D a ha,D b (hb h8)];omega
end Go.Su

/-
 HOW MANY ROUNDS an agreement takes.
-/
namespace Go.Su
set_option linter.defProp false
variable {S:E9}
def A1j(ok:S.Ok){n:Nat}(hn:n<S.l.length):S.dn (S.root n)=S.dn n:=by unfold E9.dn;have:U8 S (S.root n) (S.L6 n):=(ok.L6 hn).self;rw[this.eq]
def WJ(ok:S.Ok){n:Nat}(hn:n<S.l.length):((S.I5 (S.root n)).map S.dn).sum<=S.dn n:=by
 obtain⟨d,d1,d2,-,d4,-⟩:=ok.nd hn;have:d=⟨d.E8,d.level,none,d.D6⟩:=by cases d;simp only at d2;rw[d2]
 rw[this]at d1;have:=zx ok d1;rw[A1j ok hn]at this;rw[<- d4];omega
noncomputable def md(S:E9):List (Nat×Nat)->Nat
 |[]=>0
 |p::l=>S.dn p.1+S.dn p.2+md S l
def A0I(S:E9):∀a c:List (Nat×Nat),md S (a++c)=md S a+md S c
 |[],c=>by simp[md]
 |p::a,c=>by rw[ztq,md,md,A0I S a c];omega
def A0J(S:E9):∀a c:List Nat,md S (a.zip c)<=(a.map S.dn).sum+(c.map S.dn).sum
 |[],c=>by simp[md]
 |x::a,[]=>by simp[md]
 |x::a,y::c=>by have:=A0J S a c;simp only[zuq,md,zeq,zfq];omega
def Zj{S T:E9}(h:AR S T):∀{l:List (Nat×Nat)},(∀q∈l,q.1<S.l.length/\q.2<S.l.length)->md T l=md S l
 |[],_=>rfl
 |p::l,hl=>by rw[md,md,h _ (hl p (z4q ..)).1,h _ (hl p (z4q ..)).2,Zj h λq hq=>hl q (z2q _ hq)]
theorem B3u(S:E9):S.tick.AZ=S.AZ:=rfl
structure B8l(S:E9)(w:Nat)(q:E9×Option Nat×Nat):Prop where
 dn:AR S q.1
 AZ:q.1.AZ<=S.AZ
 less:q.2.2=0->q.1.AZ<S.AZ
 z:∀m,q.2.2=0->q.2.1=some m->q.1.dn m=0
def A4F(ok:S.Ok){v w:Nat}(hv:v<S.l.length)(hw:w<S.l.length)(rw_:S.root w=w)(xE:w≠4):B8l S w (S.become v w):=by
 unfold E9.become;split
 ·rename_i k6;have h0:S.dn w=0:=by have:=ok.dn6 hw (by rw[rw_];exact k6);unfold E9.dn;rw[this];simp[NT.dn,NT.Ev]
  have L:=yu ok hv hw;exact⟨.link ok hv hw h0,L.1,L.2,λm _ h=>by cases h⟩
 ·rename_i k6;split
  ·rename_i h4;have h0:=ok.dn0 hw h4;have L:=yu ok.tick (show v<S.tick.l.length from hv) (show w<S.tick.l.length from hw);have D:AR S.tick (S.tick.link v w).1:=.link ok.tick hv hw (by have:=AR.like ok (Z0.tick S) w hw;rw[this];exact h0);exact⟨AR.trans (T:=S.tick) (z1q _) (AR.like ok (Z0.tick S)) D,L.1,L.2,λm _ h=>by cases h⟩
  ·rename_i R6;have R6:4∈S.roots w:=Classical.not_not.1 R6;have D0:AR S S.tick.tick:=.like ok ((Z0.tick S).trans (Z0.tick S.tick));split
   ·exact⟨D0,z1q _,λh=>by simp at h,λm h=>by simp at h⟩
   ·have PN:=ok.tick.tick;obtain⟨f1,f2,f3,f4,f5,f6⟩:=ET (ok.A8 hv) (S.I5 w).length _ PN;have fp:=uF (ok.A8 hv) (S.I5 w).length _ PN;have fd:=x_ (ok.A8 hv) (S.I5 w).length _ PN;simp only;generalize E9.fresh (S.X8 v) (S.I5 w).length S.tick.tick=q at f1 f2 f3 f4 f5 f6 fp fd ⊢;have fp:q.1.AZ<=S.AZ:=fp;have D1:AR S q.1:=AR.trans (T:=S.tick.tick) (z1q _) D0 (.like PN f2.like);have OC:S.l.length<=q.1.l.length:=f2.le;split
    ·rename_i g;exact⟨D1,fp,λh=>absurd h g,λm h=>absurd h g⟩
    ·rename_i g;have g0:q.2.2=0:=Classical.not_not.1 g;have ql:=f6 g0;have kw:=ok.knd hw;have kn:=ok.YP hw;by_cases A4n:S.F9 w<=5
     ·exfalso;have h0:(S.I5 w).length=0:=by rw[kn];unfold Nu;rw[A7 (by omega),A7 (by omega)]
      have hu:=ok.L6 hw;obtain⟨d,d1,-,d3,d4,-⟩:=hu.nd;have hr:(S.L6 w).r=w:=rw_;rw[hr]at d1;have hk:(S.L6 w).D6=[]:=by
       have:d.D6.length=0:=by rw[<- Du d1];exact h0
       exact zaq.1 (by omega)
      have h4:=(ok.CP hw).1 R6;rcases NT.Au.1 h4 with e | ⟨u,hu,-⟩
      ·exact absurd (show w=4 by rw[<- hr];exact e.symm) xE
      ·rw[hk]at hu;cases hu
     ·have Vr:S.F9 w=7\/S.F9 w=8\/S.F9 w=9:=by omega
      have m0:q.2.1.getD 0 0∈q.2.1:=by
       have:0<q.2.1.length:=by rw[ql,kn];unfold Nu;split<;>(try split)<;>omega
       rw[z6q,z3q this];exact z9q this
      have z1:q.1.dn (q.2.1.getD 1 0)=0:=by
       by_cases h:1<q.2.1.length
       ·rw[z6q,z3q h];exact fd _ (z9q h)
       ·rw[z6q,List.getElem?_eq_none (by omega)];exact BU f1 (j:=0) (by omega)
      have p1:S.F9 w≠8->q.2.1.getD 1 0<q.1.l.length:=by
       intro h8;have:1<q.2.1.length:=by rw[ql,kn];unfold Nu;rw[A7 h8,C8 (by omega)];omega
       rw[z6q,z3q this];exact f5 _ (z9q this)
      obtain⟨m1,m2,-,m4,-,-⟩:=GK f1 Vr (f5 _ m0) p1;have mz:=A1i f1 Vr (f5 _ m0) p1;rw[fd _ m0,z1]at mz;have mp:=yw f1 (S.F9 w) (q.2.1.getD 0 0) (q.2.1.getD 1 0) k6;generalize q.1.make (S.F9 w) (q.2.1.getD 0 0) (q.2.1.getD 1 0)=z at m1 m2 m4 mz mp ⊢;have D2:AR S z.1:=AR.trans OC D1 (.like f1 m2.like);have LB:S.l.length<=z.1.l.length:=z7q OC m2.le;split
      ·rename_i gz;exact⟨D2,by have:=mp.1;simp only;omega,λh=>absurd h gz,λm h=>absurd h gz⟩
      ·rename_i gz;have z0:z.2.2=0:=Classical.not_not.1 gz;have L:=yu m1 (z0q hv LB) m4;have D3:AR z.1 (z.1.link v z.2.1).1:=.link m1 (z0q hv LB) m4 (by omega);refine⟨AR.trans LB D2 D3,by have:=mp.1;have:=L.1;simp only;omega,λh=>by have:=mp.2 z0;have:=L.1;simp only;omega,λm _ hm=>?_⟩;simp only[D8]at hm;subst hm;simp only;rw[D3 _ m4];omega
structure B32(S:E9)(p:Nat×Nat)(rest:List (Nat×Nat))(T:E9)(l:List (Nat×Nat)):Prop where
 ok:T.Ok
 ext:Y4 S T
 lt:∀q∈l,q.1<T.l.length/\q.2<T.l.length
 dn:AR S T
 cost:T.J7+5 * T.AZ+md T l<=S.J7+5 * S.AZ+md S (p::rest)
def A7i(ok:S.Ok){p:Nat×Nat}{rest:List (Nat×Nat)}(hl:∀q∈p::rest,q.1<S.l.length/\q.2<S.l.length):
 (∃q,(∀f,E9.O9 (f+1) S (p::rest)=some q)/\AR S q.1/\q.2.2.2≠0/\q.1.J7+5 * q.1.AZ<=S.J7+5 * S.AZ+5)\/∃T l,(∀f,E9.O9 (f+1) S (p::rest)=E9.O9 f T l)/\B32 S p rest T l:=by
 obtain⟨h1,h2⟩:=hl p (z4q ..);have BI:∀q∈rest,q.1<S.l.length/\q.2<S.l.length:=λq hq=>hl q (z2q _ hq);have x1:=ok.Hg h1;have x2:=ok.Hg h2;have r1:=A1j ok h1;have r2:=A1j ok h2;have Yt:∀{T:E9},Y4 S T->∀q∈rest,q.1<T.l.length/\q.2<T.l.length:=λe q hq=>⟨z0q (BI q hq).1 e.le,z0q (BI q hq).2 e.le⟩;have D6:∀(T:E9)(x y:Nat),T.Ok->Y4 S T->x<T.l.length->y<T.l.length->∀q∈(T.I5 (T.root x)).zip (T.I5 (T.root y))++rest,q.1<T.l.length/\q.2<T.l.length:=by
  intro T x y okT e hx hy q hq;rcases z8q.1 hq with hq | hq
  ·exact⟨okT.NS hx (zlq hq).1,okT.NS hy (zlq hq).2⟩
  ·exact Yt e q hq
 have low:∀n,1<=S.dn p.1+S.dn p.2->B32 S p rest (S.lower n 0) rest:=λn h1=>by
  have D:AR S (S.lower n 0):=.like ok (Z0.lower S _ _);refine⟨ok.lower _ _,Y4.lower S _ _,Yt (Y4.lower S _ _),D,?_⟩;rw[Zj D BI,md];have:(S.lower n 0).AZ=S.AZ:=by unfold E9.AZ;rw[zG];rfl
  have:(S.lower n 0).J7=S.J7+1:=rfl;omega
 by_cases c1:S.root p.1=S.root p.2
 ·exact .inr ⟨S,rest,λf=>by rw[Y7,C8 c1],ok,Y4.refl S,BI,AR.refl S,by rw[md];omega⟩
 by_cases c2:S.root p.1=4
 ·refine .inr ⟨_,rest,λf=>by rw[Y7,A7 c1,C8 c2],low _ ?_⟩;rw[c2,nE ok]at r1;omega
 by_cases c3:S.root p.2=4
 ·refine .inr ⟨_,rest,λf=>by rw[Y7,A7 c1,A7 c2,C8 c3],low _ ?_⟩;rw[c3,nE ok]at r2;omega
 by_cases c4:S.F9 (S.root p.1)=6
 ·have B:=Gx ok x1 x2 (ok.rr h1) (ok.rr h2) c1 c3 c4;have C:=A4F ok x1 x2 (ok.rr h2) c3;by_cases e0:(S.become (S.root p.1) (S.root p.2)).2.2=0
  ·have l1:=C.less e0;have l2:=B.J7;cases hm:(S.become (S.root p.1) (S.root p.2)).2.1 with
   |none=>refine .inr ⟨_,rest,λf=>by rw[Y7,A7 c1,A7 c2,A7 c3,C8 c4,A7 (λg=>g e0),hm],B.ok,B.ext,Yt B.ext,C.dn,?_⟩;rw[Zj C.dn BI,md];omega
   |some m=>obtain⟨b1,b2,b3,b4⟩:=B.some m e0 hm;have hy:=z0q x2 B.ext.le;refine .inr ⟨_,_,λf=>by rw[Y7,A7 c1,A7 c2,A7 c3,C8 c4,A7 (λg=>g e0),hm],B.ok,B.ext,D6 _ m _ B.ok B.ext b1 hy,C.dn,?_⟩;have k1:=WJ B.ok b1;have k2:=WJ B.ok hy;rw[C.z m e0 hm]at k1;rw[C.dn _ x2,r2]at k2;have k3:=A0J (S.become (S.root p.1) (S.root p.2)).1 ((S.become (S.root p.1) (S.root p.2)).1.I5 ((S.become (S.root p.1) (S.root p.2)).1.root m)) ((S.become (S.root p.1) (S.root p.2)).1.I5 ((S.become (S.root p.1) (S.root p.2)).1.root (S.root p.2)));rw[A0I,Zj C.dn BI,md];omega
  ·refine .inl ⟨(_,0,0,_),λf=>by rw[Y7,A7 c1,A7 c2,A7 c3,C8 c4,C8 e0],C.dn,e0,?_⟩;have e1:=C.AZ;have e2:=B.J7;exact(by omega:(S.become (S.root p.1) (S.root p.2)).1.J7+5 * (S.become (S.root p.1) (S.root p.2)).1.AZ<=S.J7+5 * S.AZ+5)
 by_cases c5:S.F9 (S.root p.2)=6
 ·have B:=Gx ok x2 x1 (ok.rr h2) (ok.rr h1) (Ne.symm c1) c2 c5;have C:=A4F (v:=S.root p.2) ok x2 x1 (ok.rr h1) c2;by_cases e0:(S.become (S.root p.2) (S.root p.1)).2.2=0
  ·have l1:=C.less e0;have l2:=B.J7;cases hm:(S.become (S.root p.2) (S.root p.1)).2.1 with
   |none=>refine .inr ⟨_,rest,λf=>by rw[Y7,A7 c1,A7 c2,A7 c3,A7 c4,C8 c5,A7 (λg=>g e0),hm],B.ok,B.ext,Yt B.ext,C.dn,?_⟩;rw[Zj C.dn BI,md];omega
   |some m=>obtain⟨b1,b2,b3,b4⟩:=B.some m e0 hm;have hy:=z0q x1 B.ext.le;refine .inr ⟨_,_,λf=>by rw[Y7,A7 c1,A7 c2,A7 c3,A7 c4,C8 c5,A7 (λg=>g e0),hm],B.ok,B.ext,D6 _ _ m B.ok B.ext hy b1,C.dn,?_⟩;have k1:=WJ B.ok b1;have k2:=WJ B.ok hy;rw[C.z m e0 hm]at k1;rw[C.dn _ x1,r1]at k2;have k3:=A0J (S.become (S.root p.2) (S.root p.1)).1 ((S.become (S.root p.2) (S.root p.1)).1.I5 ((S.become (S.root p.2) (S.root p.1)).1.root (S.root p.1))) ((S.become (S.root p.2) (S.root p.1)).1.I5 ((S.become (S.root p.2) (S.root p.1)).1.root m));rw[A0I,Zj C.dn BI,md];omega
  ·refine .inl ⟨(_,0,0,_),λf=>by rw[Y7,A7 c1,A7 c2,A7 c3,A7 c4,C8 c5,C8 e0],C.dn,e0,?_⟩;have e1:=C.AZ;have e2:=B.J7;exact(by omega:(S.become (S.root p.2) (S.root p.1)).1.J7+5 * (S.become (S.root p.2) (S.root p.1)).1.AZ<=S.J7+5 * S.AZ+5)
 by_cases c6:S.F9 (S.root p.1)=S.F9 (S.root p.2)
 ·refine .inr ⟨S,(S.I5 (S.root p.1)).zip (S.I5 (S.root p.2))++rest,λf=>by rw[Y7,A7 c1,A7 c2,A7 c3,A7 c4,A7 c5,A7 (λg=>g c6)],ok,Y4.refl S,D6 S _ _ ok (Y4.refl S) h1 h2,AR.refl S,?_⟩;have k1:=WJ ok h1;have k2:=WJ ok h2;have k3:=A0J S (S.I5 (S.root p.1)) (S.I5 (S.root p.2));rw[A0I,md];omega
 ·exact .inl ⟨(S,_,_,4),λf=>by rw[Y7,A7 c1,A7 c2,A7 c3,A7 c4,A7 c5,C8 c6],AR.refl S,by simp,by simp only;omega⟩
def A4C:∀(f:Nat)(S:E9)(l:List (Nat×Nat))(q:E9×Nat×Nat×Nat),S.Ok->(∀p∈l,p.1<S.l.length/\p.2<S.l.length)->E9.O9 f S l=some q->AR S q.1/\q.1.J7+5 * q.1.AZ<=S.J7+5 * S.AZ+md S l+if q.2.2.2=0 then 0 else 5
 |0,S,l,q,ok,hl,h=>by simp[E9.O9]at h
 |f+1,S,[],q,ok,hl,h=>by simp only[E9.O9,D8]at h;subst h;exact⟨AR.refl S,by simp only[md];omega⟩
 |f+1,S,p::rest,q,ok,hl,h=>by
   rcases A7i ok hl with⟨q',h',a,c,d⟩ | ⟨T,l,h',G⟩
   ·rw[h' f]at h;cases h;exact⟨a,by rw[A7 c];omega⟩
   ·rw[h' f]at h;obtain⟨a,c⟩:=A4C f T l q G.ok G.lt h;exact⟨AR.trans G.ext.le G.dn a,by have:=G.cost;omega⟩
def A8a(ok:S.Ok){a b:Nat}(ha:a<S.l.length)(hb:b<S.l.length):AR S (S.agree a b).1/\(S.agree a b).1.J7+5 * (S.agree a b).1.AZ<=S.J7+5 * S.AZ+(S.dn a+S.dn b)+if (S.agree a b).2.2.2=0 then 0 else 5:=by obtain⟨f,hf⟩:=WC ok ha hb;have:=A4C f S _ _ ok (by simp[ha,hb]) hf;simp only[md,Nat.add_zero]at this;exact this
end Go.Su

/-
 HOW MANY ROUNDS: types that are put, copies, patterns.
-/
namespace Go.Su
set_option linter.defProp false
mutual
def Ty.dn:Ty->Nat
 |.mk k _ ts=>(if k=5 then 1 else 0)+Ty.Ev ts
def Ty.Ev:List Ty->Nat
 |[]=>0
 |t::ts=>t.dn+Ty.Ev ts
end
theorem Ty.A4j(t:Ty):t.dn=(if t.E8=5 then 1 else 0)+Ty.Ev t.D6:=by cases t;rw[Ty.dn];rfl
def A6g(S:E9)(k A8:Nat)(l:List Nat)(hk:k≠6):(S.add ⟨k,A8,none,l⟩).AZ<=S.AZ:=by simp only[E9.AZ,A7e,Md,beq_iff_eq,hk,zbq,false_and,G8];simp only[E9.add];omega
def B61(t:Ty):t.rc->∀S:E9,S.Ok->S.cnt+JA t<=S.mx->(La t S).1.dn (La t S).2=t.dn/\(La t S).1.AZ<=S.AZ:=by
 induction t using Ty.ind with
 |h t ih=>
   intro hr S ok hc;have G:=We t hr S ok hc;rw[A10]at G ⊢;rw[Sr]at G hc;rw[Ty.A4j];rcases hr.E8 with⟨e,h1,h2,-⟩ | ⟨e,h1,h2,h3,-⟩
   ·rw[e];simp only[zZq,F6];refine⟨?_,z1q _⟩;obtain⟨j,hj,hj5⟩:∃j:Nat,t.E8=(j:Int)+1/\j<5:=⟨(t.E8-1).toNat,by omega,by omega⟩;have:(t.E8-1).toNat=j:=by omega
    rw[this];unfold E9.dn;rw[(yQ ok hj5).eq];simp only[NT.dn,NT.Ev,Ty.Ev]
    by_cases g:j+1=5
    ·rw[C8 g,C8 (by omega)]
    ·rw[A7 g,A7 (by omega)]
   ·have hl:¬t.D6.length=0:=λg=>e (zaq.1 g);rw[A7 hl]at hc G;rw[A7 hl]at G ⊢;have key:∀(ts:List Ty),(∀k∈ts,k∈t.D6)->∀S:E9,S.Ok->S.cnt+Bc ts<=S.mx->(BR ts S).1.Ok/\DC S (BR ts S).1/\(BR ts S).1.cnt=S.cnt+Bc ts/\(∀x∈(BR ts S).2,x<(BR ts S).1.l.length)/\((BR ts S).2.map (BR ts S).1.dn).sum=Ty.Ev ts/\(BR ts S).1.AZ<=S.AZ:=by
     intro ts;induction ts with
     |nil=>intro _ S ok _;exact⟨ok,DC.refl S,rfl,by simp[BR],by simp[BR,Ty.Ev],z1q _⟩
     |cons k ts ihs=>
       intro hs S ok hc;rw[Bc]at hc;have hk:=hs k (z4q ..);obtain⟨a,a2⟩:=We k (hr.kid hk) S ok (by omega);obtain⟨p1,p2⟩:=ih k hk (hr.kid hk) S ok (by omega);have ac:=a.cnt;have am:=a.U2.mx;obtain⟨c1,c2,c3,c4,c5,c6⟩:=ihs (λw hw=>hs w (z2q _ hw)) _ a.ok (by omega);rw[BR,Bc,Ty.Ev];refine⟨c1,a.U2.trans c2,by simp only;omega,λx hx=>?_,?_,z7q c6 p2⟩
       ·rcases zdq.1 hx with rfl | hx
        ·exact z0q a2 c2.le
        ·exact c4 x hx
       ·simp only[zeq,zfq]
        rw[c5,AR.like a.ok c2.like _ a2,p1]
    obtain⟨a1,a2,a3,a4,a5,a6⟩:=key t.D6 (λk hk=>hk) S ok (by omega);obtain⟨⟨g1,-,-,-⟩,-⟩:=G;have en:((BR t.D6 S).1.add ⟨t.E8.toNat,0,none,(BR t.D6 S).2⟩).l[(BR t.D6 S).1.l.length]?=some ⟨t.E8.toNat,0,none,(BR t.D6 S).2⟩:=by simp[E9.add]
    refine⟨?_,z7q (A6g _ _ _ _ ?_) a6⟩
    ·simp only at g1 ⊢;rw[zx g1 en,A7 (by omega),A7 (by omega)];congr 1;rw[<- a5];congr 1;refine zCq λx hx=>?_;exact AR.like a1 (Z0.add _ _) x (a4 x hx)
    ·omega
mutual
theorem B2K(K:List (Nat×Nat)):∀(t:NT)(q:E9×List (Nat×Nat)),DC q.1 (t.copy K q).2.1
 |.mk r k ts,q=>by
   rw[NT.copy];split
   ·exact DC.refl _
   ·split
    ·exact DC.refl _
    ·split
     ·exact DC.refl _
     ·exact(rQ K ts q).trans (DC.add _ _)
theorem rQ(K:List (Nat×Nat)):∀(ts:List NT)(q:E9×List (Nat×Nat)),DC q.1 (NT.T9 K ts q).2.1
 |[],q=>by rw[NT.T9];exact DC.refl _
 |t::ts,q=>by rw[NT.T9];exact(B2K K t q).trans (rQ K ts _)
end
def B57{S0:E9}{n0:Nat}{K:List (Nat×Nat)}(ok0:S0.Ok)(hK:∀e∈K,e.2<S0.l.length)(hK6:∀e∈K,S0.F9 e.1=6/\S0.dn e.2=0)(hn:S0.need K n0<=S0.mx-S0.cnt){N:List Nat}(hN:N=(S0.roots n0).filter λr=>S0.F9 r != 6&&(S0.L6 r).has (K.map (·.1)))(t:NT):
 ∀n,U8 S0 n t->(∀x∈t.all,x∈S0.roots n0)->∀(S:E9)(M:List (Nat×Nat)),CI S0 N S M->(∀e∈M,S.dn e.2=S0.dn e.1)->(t.copy K (S,M)).2.1.dn (t.copy K (S,M)).1=t.dn/\(t.copy K (S,M)).2.1.AZ<=S.AZ/\∀e∈(t.copy K (S,M)).2.2,(t.copy K (S,M)).2.1.dn e.2=S0.dn e.1:=by
 induction t using NT.ind with
 |h r k ts ih=>
   intro n hu hx S M C hM;obtain⟨CT,-,-⟩:=Zd ok0 hK hn hN (.mk r k ts) n hu hx S M C;have hr:=hu.Hg;simp only[NT.Jm]at hr;have e0:S0.dn r=(NT.mk r k ts).dn:=by unfold E9.dn;rw[hu.A6z]
   obtain⟨d,d1,d2,d3,d4,-⟩:=hu.nd;simp only[NT.Jm,NT.WW,NT.X0]at d1 d3 d4;have kd:=ok0.ki _ _ d1;rw[NT.copy]at CT ⊢;cases hf:Gh K r with
   |some m=>
     simp only;obtain⟨h6,h0⟩:=hK6 _ (Kr hf);refine⟨?_,z1q _,hM⟩;rw[AR.like ok0 C.U2.like _ (hK _ (Kr hf)),h0];simp only at h6;rw[Dv d1]at h6;have:ts.length=0:=by rw[<- d4,kd.1,h6];rfl
     rw[zaq.1 this,NT.dn,A7 (by omega),NT.Ev]
   |none=>
     rw[hf]at CT;simp only at CT ⊢;by_cases hh:(NT.mk r k ts).has (K.map (·.1))=false
     ·rw[C8 hh];exact⟨by rw[AR.like ok0 C.U2.like _ hr,e0],z1q _,hM⟩
     ·rw[A7 hh]at CT ⊢;cases hm:Gh M r with
      |some m=>simp only;exact⟨by rw[hM _ (Kr hm),e0],z1q _,hM⟩
      |none=>
        rw[hm]at CT;simp only at CT ⊢;have key:∀(us:List NT),(∀u∈us,u∈ts)->∀(S:E9)(M:List (Nat×Nat)),CI S0 N S M->(∀e∈M,S.dn e.2=S0.dn e.1)->CI S0 N (NT.T9 K us (S,M)).2.1 (NT.T9 K us (S,M)).2.2/\(∀x∈(NT.T9 K us (S,M)).1,x<(NT.T9 K us (S,M)).2.1.l.length)/\((NT.T9 K us (S,M)).1.map (NT.T9 K us (S,M)).2.1.dn).sum=NT.Ev us/\(NT.T9 K us (S,M)).2.1.AZ<=S.AZ/\∀e∈(NT.T9 K us (S,M)).2.2,(NT.T9 K us (S,M)).2.1.dn e.2=S0.dn e.1:=by
         intro us;induction us with
         |nil=>intro _ S M C hM;rw[NT.T9];exact⟨C,by simp,by simp[NT.Ev],z1q _,hM⟩
         |cons u us ihu=>
           intro hs S M C hM;have Bv:=hs u (z4q ..);obtain⟨m,hm⟩:=hu.kid (u:=u) Bv;have Dr:∀x∈u.all,x∈S0.roots n0:=λx Dr=>hx x (NT.Au.2 (.inr ⟨u,Bv,Dr⟩));obtain⟨a1,a2,-⟩:=Zd ok0 hK hn hN u m hm Dr S M C;obtain⟨p1,p2,p3⟩:=ih u Bv m hm Dr S M C hM;obtain⟨c1,c2,c3,c4,c5⟩:=ihu (λw hw=>hs w (z2q _ hw)) _ _ a1 p3;have gr:=rQ K us (u.copy K (S,M)).2;rw[NT.T9,NT.Ev];refine⟨c1,λx hx=>?_,?_,z7q c4 p2,c5⟩
           ·rcases zdq.1 hx with rfl | hx
            ·exact z0q a2 gr.le
            ·exact c2 x hx
           ·simp only[zeq,zfq]
            have c3':((NT.T9 K us (u.copy K (S,M)).2).1.map (NT.T9 K us (u.copy K (S,M)).2).2.1.dn).sum=NT.Ev us:=c3;rw[c3',AR.like a1.ok gr.like _ a2,p1]
        obtain⟨a1,a2,a3,a4,a5⟩:=key ts (λu hu=>hu) S M C hM;generalize NT.T9 K ts (S,M)=q at a1 a2 a3 a4 a5 CT ⊢;have k6:k≠6:=by
         intro e;subst e;have:ts.length=0:=by rw[<- d4,kd.1,d3];rfl
         rw[NT.has,zaq.1 this,NT.aj,Bool.or_false,Ph]at hh;exact hh (Kt.1 hf)
        have en:(q.2.1.add ⟨k,0,none,q.1⟩).l[q.2.1.l.length]?=some ⟨k,0,none,q.1⟩:=by simp[E9.add]
        have D:=AR.like a1.ok (Z0.add q.2.1 ⟨k,0,none,q.1⟩);have nn:(q.2.1.add ⟨k,0,none,q.1⟩).dn q.2.1.l.length=(NT.mk r k ts).dn:=by rw[zx CT.ok en,NT.dn,<- a3];congr 2;exact zCq λx hx=>D x (a2 x hx)
        refine⟨nn,z7q (A6g _ _ _ _ k6) a4,λe he=>?_⟩;rcases z8q.1 he with he | he
        ·rw[D _ (a1.lt e he)];exact a5 e he
        ·rw[z5q.1 he];exact nn.trans e0.symm
def B1p{S:E9}:∀(fs ts:List Nat)(K K':List (Nat×Nat)),fs.length<=ts.length->(∀t∈ts,S.dn t=0)->(∀e∈K,S.F9 e.1=6/\S.dn e.2=0)->S.keys fs ts K=some K'->∀e∈K',S.F9 e.1=6/\S.dn e.2=0
 |[],ts,K,K',_,_,hk,h=>by simp only[E9.keys,D8]at h;subst h;exact hk
 |f::fs,[],K,K',hl,_,hk,h=>by simp at hl
 |f::fs,t::ts,K,K',hl,ht,hk,h=>by
   rw[E9.keys]at h;split at h
   ·rename_i g;refine B1p fs ts _ K' (by simpa using hl) (λx hx=>ht x (z2q _ hx)) (λe he=>?_) h;rcases z8q.1 he with he | he
    ·exact hk e he
    ·rw[z5q.1 he];exact⟨g.1,ht t (z4q ..)⟩
   ·cases h
def B4F{S:E9}(ok:S.Ok){n:Nat}(hn:n<S.l.length){from_ to:List Nat}(hl:from_.length<=to.length)(ht:∀t∈to,t<S.l.length)(h0:∀t∈to,S.dn t=0):(S.copy n from_ to).1.dn (S.copy n from_ to).2.1<=S.dn n/\AR S (S.copy n from_ to).1/\(S.copy n from_ to).1.J7+5 * (S.copy n from_ to).1.AZ<=S.J7+5 * S.AZ+1:=by
 unfold E9.copy;split
 ·exact⟨by simp only;rw[BU ok (by omega)];omega,AR.refl S,by simp only;omega⟩
 ·rename_i K hK;split
  ·exact⟨by simp only;rw[BU ok.tick (by omega)];omega,.like ok (Z0.tick S),by simp only[B3u];simp only[E9.tick];omega⟩
  ·rename_i hnd;have hk:=vC from_ to [] K hl ht (by simp) hK;have hk6:=B1p from_ to [] K hl h0 (by simp) hK;have rt:S.tick.roots n=S.roots n:=by unfold E9.roots;rw[(ok.L6 hn).tick.eq]
   have D0:=AR.like ok (Z0.tick S);have ci:CI S.tick ((S.tick.roots n).filter λr=>S.tick.F9 r != 6&&(S.tick.L6 r).has (K.map (·.1))) S.tick []:=⟨ok.tick,DC.refl _,rfl,rfl,by simp,zPq,by simp⟩;have hx:∀x∈(S.L6 n).all,x∈S.tick.roots n:=λx hx=>by rw[rt];exact(ok.CP hn).2 hx
   have B6w:S.tick.need K n<=S.tick.mx-S.tick.cnt:=by rw[ZQ ok hn];exact zSq.1 hnd
   obtain⟨C,c2,-⟩:=Zd (S0:=S.tick) (n0:=n) ok.tick hk B6w rfl (S.L6 n) n (ok.L6 hn).tick hx S.tick [] ci;obtain⟨p1,p2,-⟩:=B57 (S0:=S.tick) (n0:=n) ok.tick hk (λe he=>⟨(hk6 e he).1,by rw[D0 _ (hk e he)];exact(hk6 e he).2⟩) B6w rfl (S.L6 n) n (ok.L6 hn).tick hx S.tick [] ci (by simp);refine⟨ziq p1,AR.trans (T:=S.tick) (z1q _) D0 (.like ok.tick C.U2.like),?_⟩;have r:=C.J7;have:S.tick.J7=S.J7+1:=rfl;have:S.tick.AZ=S.AZ:=rfl;simp only;omega
end Go.Su

/-
 HOW MANY ROUNDS: steps of an inference, patterns.
-/
namespace Go.Su
set_option linter.defProp false
noncomputable def W.phi(w:W):Nat:=w.s.J7+5 * w.s.AZ+if w.err=0 then 5 else 0
structure GC(w w':W)(c:Nat):Prop where
 g:Good w w'
 dn:AR w.s w'.s
 phi:w'.phi<=w.phi+c
structure GN(w:W)(q:W×Nat)(c r:Nat):Prop where
 c:GC w q.1 c
 lt:q.2<q.1.s.l.length
 dn:q.1.s.dn q.2<=r
variable {w:W}
def GC.refl(h:l6 w):GC w w 0:=⟨Good.refl h,AR.refl _,z1q _⟩
def GC.trans{a b c:W}{m n:Nat}(h:GC a b m)(k:GC b c n):GC a c (m+n):=⟨h.g.trans k.g,AR.trans h.g.ext.le h.dn k.dn,by have:=h.phi;have:=k.phi;omega⟩
def GC.mono{a b:W}{m n:Nat}(h:GC a b m)(le:m<=n):GC a b n:=⟨h.g,h.dn,by have:=h.phi;omega⟩
def GC.n{w1:W}{q:W×Nat}{m n r:Nat}(h:GC w w1 m)(k:GN w1 q n r):GN w q (m+n) r:=⟨h.trans k.c,k.lt,k.dn⟩
def GN.mono{q:W×Nat}{m n r r':Nat}(h:GN w q m r)(le:m<=n)(l2:r<=r'):GN w q n r':=⟨h.c.mono le,h.lt,z7q h.dn l2⟩
variable {c:Nat}
def GC.i{w':W}(h:GC w w' c):l6 w':=h.g.i
def GC.ext{w':W}(h:GC w w' c):Y4 w.s w'.s:=h.g.ext
def GC.lt{w':W}{n:Nat}(h:GC w w' c)(hn:n<w.s.l.length):n<w'.s.l.length:=h.g.lt hn
def GC.at{w':W}{n r:Nat}(h:GC w w' c)(hn:n<w.s.l.length)(hr:w.s.dn n<=r):w'.s.dn n<=r:=by rw[h.dn n hn];exact hr
def JK(S:E9)(l:List EN)(D:Nat):Prop:=∀x∈l,S.dn x.node<=D
variable {S:E9}{l:List EN}{D:Nat}
def JK.mono{T:E9}{D':Nat}(h:JK S l D)(hE:Z6 S.l.length l)(d:AR S T)(le:D<=D'):JK T l D':=λx hx=>by rw[d _ (hE x hx).1];exact z7q (h x hx) le
def JK.app{k:List EN}(h:JK S l D)(g:JK S k D):JK S (l++k) D:=λx hx=>by
 rcases z8q.1 hx with hx | hx
 ·exact h x hx
 ·exact g x hx
def JK.one{s:ByteArray}{m:Nat}{vs:List Nat}(h:S.dn m<=D):JK S [⟨s,m,vs⟩] D:=λx hx=>by rw[z5q.1 hx];exact h
variable (w:W)(e:Nat)(b:GY)
def Ef(h:w.err=0):(w.fails e b).err=e:=by
 unfold W.fails;split
 ·rfl
 ·rename_i g;rw[h];exact(Classical.not_not.1 λh2=>g ⟨h,Ne.symm h2⟩)
def Ub(h:w.err≠0):(w.fails e b).err=w.err:=by unfold W.fails;rw[A7 λg=>h g.1]
def A28:(w.fails e b).phi<=w.phi:=by
 unfold W.phi;rw[W9];by_cases h:w.err=0
 ·rw[Ef w e b h,h];simp only[F6];split<;>omega
 ·rw[Ub w e b h];omega
variable {w:W}
def Zm{e:Nat}{b:GY}(h:w.err=0)(hs:S.J7+5 * S.AZ<=w.s.J7+5 * w.s.AZ+c+if e=0 then 0 else 5):(({ w with s:=S }:W).fails e b).phi<=w.phi+c:=by
 unfold W.phi;rw[W9,Ef _ e b (by simpa using h),h];simp only[F6]
 split at hs
 ·rename_i g;rw[C8 g];omega
 ·rename_i g;rw[A7 g];omega
variable {A8:Nat}
def Qk(h:l6 w)(hl:A8<2 ^ 31):GN w (w.fresh A8) 0 0:=by
 obtain⟨a1,a2⟩:=Ab h hl;have dv:=B09 h.ok hl;have pv:=A8B h.ok A8;obtain⟨-,v2,v3,-⟩:=Ms h.ok hl;refine⟨⟨a1,?_,?_⟩,a2,?_⟩
 all_goals
  unfold W.fresh at a1 a2 ⊢;split
 ·exact AR.refl _
 ·simp only;rw[W9];exact .like h.ok v2.like
 ·exact zgq _ _
 ·rename_i g;exact Zm (Classical.not_not.1 g) (by omega)
 ·simp only;rw[BU h.ok (by omega)];omega
 ·simp only;rw[W9];simp only;omega
def kJ(h:l6 w){k x y r:Nat}(hk:k=7\/k=8\/k=9)(hx:x<w.s.l.length)(hy:k≠8->y<w.s.l.length)(hr:w.s.dn x+w.s.dn y<=r):GN w (w.made k x y) 0 r:=by
 obtain⟨a1,a2⟩:=Dx h hk hx hy;have dv:=A1i h.ok hk hx hy;have pv:=(yw h.ok k x y (by omega)).1;obtain⟨-,v2,v3,-⟩:=GK h.ok hk hx hy;refine⟨⟨a1,?_,?_⟩,a2,?_⟩
 all_goals
  unfold W.made at a1 a2 ⊢;split
 ·exact AR.refl _
 ·simp only;rw[W9];exact .like h.ok v2.like
 ·exact zgq _ _
 ·rename_i g;exact Zm (Classical.not_not.1 g) (by omega)
 ·simp only;rw[BU h.ok (by omega)];omega
 ·simp only;rw[W9];simp only;omega
def A99(h:l6 w){t:Ty}(ht:t.rc):GN w (w.put t) 0 t.dn:=by
 obtain⟨a1,a2⟩:=QM h ht;obtain⟨-,v2,-,-⟩:=A6n h.ok ht;have cm:=h.ok.cm;have key:(w.s.put t).1.dn (w.s.put t).2.1<=t.dn/\(w.s.put t).1.AZ<=w.s.AZ/\(w.s.put t).1.J7=w.s.J7:=by
  unfold E9.put;split
  ·exact⟨by simp only;rw[BU h.ok (by omega)];omega,z1q _,rfl⟩
  ·obtain⟨p1,p2⟩:=B61 t ht w.s h.ok (by omega);exact⟨ziq p1,p2,(We t ht w.s h.ok (by omega)).1.J7⟩
 obtain⟨k1,k2,k3⟩:=key;refine⟨⟨a1,?_,?_⟩,a2,?_⟩
 all_goals
  unfold W.put at a1 a2 ⊢;split
 ·exact AR.refl _
 ·simp only;rw[W9];exact .like h.ok v2.like
 ·exact zgq _ _
 ·rename_i g;exact Zm (Classical.not_not.1 g) (by omega)
 ·simp only;rw[BU h.ok (by omega)];omega
 ·simp only;rw[W9];simp only;omega
def EO(h:l6 w){a b:Nat}(ha:a<w.s.l.length)(hb:b<w.s.l.length)(e:Ex)(hc:w.s.dn a+w.s.dn b<=c):GC w (w.agree a b e) c:=by
 have a1:=U4 h ha hb e;obtain⟨v1,v2⟩:=A8a h.ok ha hb;refine⟨a1,?_,?_⟩
 all_goals
  unfold W.agree at a1 ⊢;split
 ·exact AR.refl _
 ·rw[W9];exact v1
 ·exact zgq _ _
 ·rename_i g;exact Zm (Classical.not_not.1 g) (by omega)
variable {l:List Nat}
def oH{w':W}(h:GC w w' c)(hl:∀x∈l,x<w'.s.l.length):GC w (w'.Y2 l) c:=⟨Da h.g hl,h.dn,h.phi⟩
def A8V{w':W}(h:GC w w' c)(hl:(∀x∈l,x<w'.s.l.length)/\l.length<2 ^ 29):GC w (w'.Si l) c:=⟨Ho h.g hl,h.dn,h.phi⟩
def A8S{q:W×Nat}{r:Nat}(h:GN w q c r):GN w (W.tell q) c r:=by obtain⟨a1,a2⟩:=fH h.c.g h.lt;exact⟨⟨a1,h.c.dn,h.c.phi⟩,a2,h.dn⟩
def A1Y(h:l6 w){t:Ty}(ht:t.E8≠0->t.rc)(hl:A8<2 ^ 31):GN w (w.Ae t A8) 0 t.dn:=by
 unfold W.Ae;split
 ·rename_i g;exact A99 h (ht g)
 ·exact(A8S (Qk h hl)).mono (z1q _) (zhq _)
def A79(h:l6 w){n:Nat}(hn:n<w.s.l.length):GC w (w.above n A8).1 1:=by refine⟨(Ba h hn).1,.like h.ok (Z0.tick _),?_⟩;exact(by omega:w.s.J7+1+5 * w.s.AZ+(if w.err=0 then 5 else 0)<=w.s.J7+5 * w.s.AZ+(if w.err=0 then 5 else 0)+1)
def B1A{A8:Nat}(hl:A8<2 ^ 31):∀(k:Nat){w:W},l6 w->(∀t∈w.types,w.s.dn t=0)->GC w (W.many A8 k w) 0/\∀t∈(W.many A8 k w).types,(W.many A8 k w).s.dn t=0
 |0,w,h,h0=>⟨GC.refl h,h0⟩
 |k+1,w,h,h0=>by
   have a:=Qk h hl;have t:=A8S a;have et:(w.fresh A8).1.types=w.types:=by
    unfold W.fresh;split
    ·rfl
    ·rw[Rv]
   rw[W.many];obtain⟨b1,b2⟩:=B1A hl k t.c.i (λx hx=>by
    simp only[W.tell,et,z8q,z5q]at hx;rcases hx with hx | rfl
    ·exact(t.c.dn x (h.ty x hx)).trans (h0 x hx)
    ·exact zXq.1 a.dn)
   exact⟨t.c.trans b1,b2⟩
def B6Q(h:l6 w){e:Ex}{l:List EN}(hl:A8<2 ^ 31)(hE:Z6 w.s.l.length l)(hD:JK w.s l D)(h0:w.types=[]):GN w (w.name e A8 l) 1 D:=by
 unfold W.name;split
 ·exact⟨⟨(Good.refl h).fails _ _,by rw[W9];exact AR.refl _,z7q (A28 ..) (zNq _)⟩,by rw[W9];have:=h.ok.five;simp only;omega,by rw[W9];simp only;rw[BU h.ok (by omega)];omega⟩
 ·rename_i x hx;have hx:=znq hx;rw[List.mem_reverse]at hx;obtain⟨x1,x2⟩:=hE x hx;split
  ·exact⟨(GC.refl h).mono (zhq _),x1,hD x hx⟩
  ·obtain⟨g,g0⟩:=B1A hl x.vars.length h (by rw[h0];simp);have ht:=Qo (A8:=A8) x.vars.length w;simp only;generalize W.many A8 x.vars.length w=w1 at g g0 ht ⊢;have xl:=g.lt x1;have xd:=g.at x1 (hD x hx);split
   ·exact⟨g.mono (zhq _),by have:=g.i.ok.five;simp only;omega,by simp only;rw[BU g.i.ok (by omega)];omega⟩
   ·rename_i ge;obtain⟨c1,c2,c3⟩:=aC g.i.ok xl (from_:=x.vars) (to:=w1.types) (by omega) g.i.ty;obtain⟨p1,p2,p3⟩:=B4F g.i.ok xl (from_:=x.vars) (to:=w1.types) (by omega) g.i.ty g0;have G:GC w1 (({ w1 with s:=(w1.s.copy x.node x.vars w1.types).1 }:W).fails (w1.s.copy x.node x.vars w1.types).2.2 P9) 1:=⟨(g.i.s (w':={ w1 with s:=(w1.s.copy x.node x.vars w1.types).1 }) c1 c2 rfl rfl rfl).fails _ _,by rw[W9];exact p2,Zm (Classical.not_not.1 ge) (by omega)⟩;exact⟨(g.trans G).mono (by omega),by rw[W9];exact c3,by rw[W9];exact z7q p1 xd⟩
structure PC(x y:PS)(e:Nat):Prop where
 g:QW x y
 dn:AR x.s y.s
 cost:y.s.J7+5 * y.s.AZ<=x.s.J7+5 * x.s.AZ+if e=0 then 0 else 5
 nd:(∀n∈x.nodes,n<x.s.l.length/\x.s.dn n=0)->∀n∈y.nodes,y.s.dn n=0
def PC.trans{x y z:PS}{e:Nat}(h:PC x y 0)(k:PC y z e):PC x z e where
 g:=h.g.trans k.g
 dn:=AR.trans h.g.ext.le h.dn k.dn
 cost:=by have h1:=h.cost;have h2:=k.cost;rw[C8 rfl]at h1;omega
 nd a:=k.nd λn hn=>⟨h.g.nd (λn hn=>(a n hn).1) n hn,h.nd a n hn⟩
def A6d{x:PS}(ok:x.s.Ok){lo hi:Int}{a b:Nat}(ha:a<x.s.l.length)(hb:b<x.s.l.length)(a0:x.s.dn a=0)(b0:x.s.dn b=0):PC x (x.agree lo hi a b).1 (x.agree lo hi a b).2:=by obtain⟨v1,v2⟩:=A8a ok ha hb;exact⟨iE ok ha hb,v1,by rw[a0,b0]at v2;exact v2,λg n hn=>(v1 n (g n hn).1).trans (g n hn).2⟩
def A8A{x:PS}(ok:x.s.Ok)(hl:A8<2 ^ 31){lo hi:Int}{n k many:Nat}(hk:k=7/\many=2\/k=8/\many=1)(hn:n<x.s.l.length)(n0:x.s.dn n=0):
 PC x (x.made A8 lo hi n k many).1 (x.made A8 lo hi n k many).2.2.2/\(∀y∈(x.made A8 lo hi n k many).2.1,(x.made A8 lo hi n k many).1.s.dn y=0)/\(x.made A8 lo hi n k many).1.s.dn (x.made A8 lo hi n k many).2.2.1=0:=by
 have PG:=FK ok hl (lo:=lo) (hi:=hi) (n:=n) hk hn;obtain⟨pg,-,-,-⟩:=PG;obtain⟨f1,f2,f3,f4,f5',f6⟩:=ET hl many x.s ok;have fd:=x_ hl many x.s ok;have fp:=uF hl many x.s ok;unfold PS.made at pg ⊢;simp only at pg ⊢;generalize E9.fresh A8 many x.s=q at f1 f2 f3 f4 f5' f6 fd fp pg ⊢;have D1:AR x.s q.1:=.like ok f2.like;split
 ·rename_i g;rw[C8 g]at pg;exact⟨⟨pg,D1,by simp only;omega,λg n hn=>(D1 n (g n hn).1).trans (g n hn).2⟩,by simp,BU f1 (j:=0) (by omega)⟩
 ·rename_i g;rw[A7 g]at pg;have g0:q.2.2=0:=Classical.not_not.1 g;have ql:=f6 g0;have p0:∀i,i<many->q.2.1.getD i 0<q.1.l.length/\q.1.dn (q.2.1.getD i 0)=0:=by intro i hi;rw[z6q,z3q (by omega)];exact⟨f5' _ (z9q (by omega)),fd _ (z9q (by omega))⟩
  have q0:=p0 0 (by omega);have q1:=p0 (many-1) (by omega);obtain⟨m1,m2,m3,m4,m5,m6⟩:=GK f1 (k:=k) (x:=q.2.1.getD 0 0) (y:=q.2.1.getD (many-1) 0) (by omega) q0.1 (λ_=>q1.1);have md:=A1i f1 (k:=k) (a:=q.2.1.getD 0 0) (b:=q.2.1.getD (many-1) 0) (by omega) q0.1 (λ_=>q1.1);have mp:=(yw f1 k (q.2.1.getD 0 0) (q.2.1.getD (many-1) 0) (by omega)).1;rw[q0.2,q1.2]at md;generalize q.1.make k (q.2.1.getD 0 0) (q.2.1.getD (many-1) 0)=z at m1 m2 m3 m4 m5 m6 md mp pg ⊢;have D2:AR x.s z.1:=AR.trans f2.le D1 (.like f1 m2.like);have e2:x.s.l.length<=z.1.l.length:=z7q f2.le m2.le;split
  ·rename_i gz;rw[C8 gz]at pg;exact⟨⟨pg,D2,by simp only;omega,λg n hn=>(D2 n (g n hn).1).trans (g n hn).2⟩,by simp,BU m1 (j:=0) (by omega)⟩
  ·have A:=A6d (x:={ x with s:=z.1 }) m1 (lo:=lo) (hi:=hi) (a:=n) (b:=z.2.1) (z0q hn e2) m4 ((D2 n hn).trans n0) (by simp only;omega);rename_i gz;rw[A7 gz]at pg;have Ad:AR z.1 (({ x with s:=z.1 }:PS).agree lo hi n z.2.1).1.s:=A.dn;refine⟨⟨pg,AR.trans e2 D2 Ad,?_,λg=>A.nd λn hn=>⟨z0q (g n hn).1 e2,(D2 n (g n hn).1).trans (g n hn).2⟩⟩,λy hy=>?_,?_⟩
   ·have:=A.cost;simp only at this ⊢;omega
   ·rw[Ad y (z0q (f5' y hy) m2.le),AR.like f1 m2.like y (f5' y hy)];exact fd y hy
   ·rw[Ad _ m4];omega
mutual
theorem B1J{A8:Nat}(hl:A8<2 ^ 31):∀(p:F5)(nd:Nat)(x:PS),x.s.Ok->nd<x.s.l.length->x.s.dn nd=0->p.pat=true->PC x (BG A8 p nd x).1 (BG A8 p nd x).2
 |.mk k lo hi name n s ks,nd,x,ok,hn,hz,hp=>by
   have pX:=hp;rw[F5.kP,zbq,zBq]at pX;obtain⟨h1,h2⟩:=pX;obtain⟨KF,Vr⟩:=F5.vH h1;simp only[F5.JV,F5.X0]at KF Vr h2;have f5:=ok.five;rw[BG];split
   ·exact⟨⟨ok,Y4.refl _,λg=>g⟩,AR.refl _,z1q _,λg n hn=>(g n hn).2⟩
   ·split
    ·refine⟨⟨ok,Y4.refl _,λg m hm=>?_⟩,AR.refl _,z1q _,λg m hm=>?_⟩
     all_goals rcases z8q.1 hm with hm | hm
     ·exact g m hm
     ·rw[z5q.1 hm];exact hn
     ·exact(g m hm).2
     ·rw[z5q.1 hm];exact hz
    ·split
     ·rename_i k7;obtain⟨a1,a2,a3,a4⟩:=FK ok hl (lo:=lo) (hi:=hi) (n:=nd) (k:=7) (many:=2) (.inl ⟨rfl,rfl⟩) hn;obtain⟨c1,c2,c3⟩:=A8A ok hl (lo:=lo) (hi:=hi) (n:=nd) (k:=7) (many:=2) (.inl ⟨rfl,rfl⟩) hn hz;generalize x.made A8 lo hi nd 7 2=q at a1 a2 a3 a4 c1 c2 c3 ⊢;split
      ·exact c1
      ·rename_i g;have q0:q.2.2.2=0:=Classical.not_not.1 g;rw[q0]at c1;exact c1.trans (A6e hl ks q.2.1 q.1 a1.ok (by rw[a4 q0,KF (.inl k7)];exact z1q _) a2 c2 h2)
     ·split
      ·rename_i k89;obtain⟨a1,a2,a3,a4⟩:=FK ok hl (lo:=lo) (hi:=hi) (n:=nd) (k:=8) (many:=1) (.inr ⟨rfl,rfl⟩) hn;obtain⟨c1,c2,c3⟩:=A8A ok hl (lo:=lo) (hi:=hi) (n:=nd) (k:=8) (many:=1) (.inr ⟨rfl,rfl⟩) hn hz;generalize x.made A8 lo hi nd 8 1=q at a1 a2 a3 a4 c1 c2 c3 ⊢;split
       ·exact c1
       ·rename_i g;have k9:k=9:=by
         rcases k89 with h | h
         ·exact absurd (.inr h) g
         ·exact h
        have q0:q.2.2.2=0:=Classical.not_not.1 λh=>g (.inl h);rw[q0]at c1;refine c1.trans (A6e hl ks _ q.1 a1.ok (by rw[zoq,a4 q0,KF (.inr k9)];exact z1q _) (λy hy=>?_) (λy hy=>?_) h2)
        all_goals rcases z8q.1 hy with hy | hy
        ·exact a2 y hy
        ·rw[z5q.1 hy];exact a3
        ·exact c2 y hy
        ·rw[z5q.1 hy];exact c3
      ·have:(k-3).toNat<4:=by omega
       exact A6d ok hn (by omega) hz (BU ok this)
theorem A6e{A8:Nat}(hl:A8<2 ^ 31):∀(ps:List F5)(ns:List Nat)(x:PS),x.s.Ok->ps.length<=ns.length->(∀n∈ns,n<x.s.l.length)->(∀n∈ns,x.s.dn n=0)->(∀p∈ps,p.pat=true)->PC x (DY A8 ps ns x).1 (DY A8 ps ns x).2
 |[],ns,x,ok,_,_,_,_=>by rw[DY];exact⟨⟨ok,Y4.refl _,λg=>g⟩,AR.refl _,z1q _,λg n hn=>(g n hn).2⟩
 |p::ps,[],x,ok,J5,_,_,_=>by simp at J5
 |p::ps,n::ns,x,ok,J5,hn,hz,hp=>by
   have a:=B1J hl p n x ok (hn n (z4q ..)) (hz n (z4q ..)) (hp p (z4q ..));rw[kN];by_cases g:(BG A8 p n x).2≠0
   ·rw[C8 g];exact a
   ·rw[A7 g];rw[Classical.not_not.1 g]at a;exact a.trans (A6e hl ps ns _ a.g.ok (by simpa using J5) (λm hm=>z0q (hn m (z2q _ hm)) a.g.ext.le) (λm hm=>(a.dn m (hn m (z2q _ hm))).trans (hz m (z2q _ hm))) λq hq=>hp q (z2q _ hq))
end
end Go.Su

/-
 HOW MANY ROUNDS an inference takes.
-/
namespace Go.Su
def Cx(n c:Nat):Prop:=1<=c/\c ^ 5<=4 ^ (n+1)
theorem Cx.one(n:Nat):Cx n 1:=⟨z1q _,by rw[Nat.one_pow];exact Nat.one_le_pow _ _ (by omega)⟩
variable {c:Nat}
theorem Cx.mono{n m:Nat}(h:Cx n c)(le:n<=m):Cx m c:=⟨h.1,z7q h.2 (zyq (by omega) (by omega))⟩
theorem Cx.mul{n m x y:Nat}(h:Cx n x)(k:Cx m y):Cx (n+m+1) (x * y):=⟨Nat.mul_pos h.1 k.1,by rw[zYq,show n+m+1+1=(n+1)+(m+1)by omega,Nat.pow_add];exact zLq h.2 k.2⟩
theorem Cx.succ{n x:Nat}(h:Cx n x)(hn:1<=n):Cx (n+1) (x+1):=by
 refine⟨by omega,?_⟩;obtain⟨h1,h2⟩:=h;rcases zIq x 4 with g | g
 ·have pw:∀m,m<=n->4 ^ (m+2)<=4 ^ (n+2):=λm hm=>zyq (by omega) (by omega);have:x=1\/x=2\/x=3:=by omega
  rcases this with rfl | rfl | rfl
  ·exact z7q (by decide) (pw 1 hn)
  ·have:2<=n:=by
    rcases zIq n 2 with g | g
    ·have:n=1:=by omega
     subst this;exact absurd h2 (by decide)
    ·exact g
   exact z7q (by decide) (pw 2 this)
  ·have:3<=n:=by
    rcases zIq n 3 with g | g
    ·have:n=1\/n=2:=by omega
     rcases this with rfl | rfl
     ·exact absurd h2 (by decide)
     ·exact absurd h2 (by decide)
    ·exact g
   exact z7q (by decide) (pw 3 this)
 ·have a:(4 * (x+1)) ^ 5<=(5 * x) ^ 5:=zAq (by omega) 5;rw[zYq,zYq]at a;have e:4 ^ (n+1+1)=4 * 4 ^ (n+1):=by rw[Nat.pow_succ];omega
  have e1:(4:Nat) ^ 5=1024:=rfl;have e2:(5:Nat) ^ 5=3125:=rfl;rw[e1,e2]at a;rw[e];omega
theorem Cx.add{n m x y:Nat}(h:Cx n x)(k:Cx m y)(hn:1<=n)(hm:1<=m):Cx (n+m+1) (x+y):=by
 by_cases g1:x=1
 ·subst g1;rw[Nat.add_comm 1 y];exact(k.succ hm).mono (m:=n+m+1) (by omega)
 by_cases g2:y=1
 ·subst g2;exact(h.succ hn).mono (m:=n+m+1) (by omega)
 ·have h1:=h.1;have k1:=k.1;obtain⟨z1,z2⟩:=h.mul k;refine⟨by omega,z7q (zAq ?_ 5) z2⟩;obtain⟨a,rfl⟩:∃a,x=a+2:=⟨x-2,by omega⟩;obtain⟨b,rfl⟩:∃b,y=b+2:=⟨y-2,by omega⟩;rw[zcq,Nat.mul_add];have:=zhq (a * b);omega
theorem Cx.max{n x y:Nat}(h:Cx n x)(k:Cx n y):Cx n (max x y):=by
 rcases Nat.le_total x y with g | g
 ·rw[Nat.max_eq_right g];exact k
 ·rw[Nat.max_eq_left g];exact h
inductive EL(D:Nat):Ex->Prop
 |mk {e:Ex}:2 * e.a.dn<=D->2 * e.b.dn<=D->(∀k∈e.D6,EL D k)->EL D e
variable {D:Nat}{e:Ex}
theorem EL.mono{D':Nat}(le:D<=D')(h:EL D e):EL D' e:=by
 induction h with
 |mk a b _ ih=>exact .mk (by omega) (by omega) ih
theorem EL.a(h:EL D e):2 * e.a.dn<=D:=by cases h;assumption
theorem EL.b(h:EL D e):2 * e.b.dn<=D:=by cases h;assumption
variable {k:Ex}
theorem EL.kid(h:EL D e)(hk:k∈e.D6):EL D k:=by cases h with | mk _ _ h=>exact h k hk
def wR(R:Rec)(e:Ex)(c:Nat):Prop:=∀(A8:Nat)(l:List EN)(w:W)(D X:Nat),A8+e.size<2 ^ 30->l6 w->Z6 w.s.l.length l->1<=D->EL D e->JK w.s l D->c * D<=X->AR w.s (R e A8 l w).1.s/\(R e A8 l w).1.phi<=w.phi+(3 * (e.size * X)-2 * X)/\(R e A8 l w).1.s.dn (R e A8 l w).2.1<=X
theorem wR.mono{R:Rec}{c':Nat}(h:wR R e c)(le:c<=c'):wR R e c':=λA8 l w D X a b d f g i j=>h A8 l w D X a b d f g i (z7q (zJq D le) j)
theorem Td(e:Ex)(X:Nat):X<=e.size * X:=zrq X (by have:=e.size_eq;omega)
section
variable {R:Rec}{w:W}{A8 D X:Nat}{l:List EN}
theorem B1t(hR:Cn R e)(hC:wR R e c)(hl:A8+e.size<2 ^ 30)(h:l6 w)(hE:Z6 w.s.l.length l)(hD:1<=D)(hA:EL D e)(hd:JK w.s l D)(hX:c * D<=X):GN w (J4 R w e A8 l) (3 * (e.size * X)-2 * X) X:=by
 obtain⟨a1,a2⟩:=A5O hR hl h hE;obtain⟨c1,c2,c3⟩:=hC A8 l w D X hl h hE hD hA hd hX;refine⟨⟨a1,?_,?_⟩,a2,?_⟩
 all_goals
  unfold J4 at a1 a2 ⊢;split
 ·exact AR.refl _
 ·exact c1
 ·exact zgq _ _
 ·exact c2
 ·simp only;rw[BU h.ok (by omega)];omega
 ·exact c3
theorem B1s(hC:wR R e c)(hl:A8+e.size<2 ^ 30)(h:l6 w)(hE:Z6 w.s.l.length l)(hD:1<=D)(hA:EL D e)(hd:JK w.s l D):(J4 R w e A8 l).1.s.dn (J4 R w e A8 l).2<=c * D:=by
 obtain⟨c1,c2,c3⟩:=hC A8 l w D _ hl h hE hD hA hd (z1q _);unfold J4;split
 ·simp only;rw[BU h.ok (by omega)];omega
 ·exact c3
structure KC(R:Rec)(A8 D c:Nat)(k:Ex):Prop where
 good:Cn R k
 cost:wR R k c
 lv:A8+1+k.size<2 ^ 30
 zi:EL D k
theorem KC.run(K:KC R A8 D c k)(h:l6 w)(hE:Z6 w.s.l.length l)(hD:1<=D)(hd:JK w.s l D)(hX:c * D<=X):GN w (J4 R w k A8 l) (3 * (k.size * X)-2 * X) X:=B1t K.good K.cost (by have:=K.lv;omega) h hE hD K.zi hd hX
theorem KC.A6A(K:KC R A8 D c k)(h:l6 w)(hE:Z6 w.s.l.length l)(hD:1<=D)(hd:JK w.s l D)(hX:c * D<=X):GN w (J4 R w k (A8+1) l) (3 * (k.size * X)-2 * X) X:=B1t K.good K.cost K.lv h hE hD K.zi hd hX
theorem KC.dn(K:KC R A8 D c k)(h:l6 w)(hE:Z6 w.s.l.length l)(hD:1<=D)(hd:JK w.s l D):(J4 R w k A8 l).1.s.dn (J4 R w k A8 l).2<=c * D:=B1s K.cost (by have:=K.lv;omega) h hE hD K.zi hd
theorem KC.dn1(K:KC R A8 D c k)(h:l6 w)(hE:Z6 w.s.l.length l)(hD:1<=D)(hd:JK w.s l D):(J4 R w k (A8+1) l).1.s.dn (J4 R w k (A8+1) l).2<=c * D:=B1s K.cost K.lv h hE hD K.zi hd
theorem KC.up{D':Nat}(K:KC R A8 D c k)(le:D<=D'):KC R A8 D' c k:=⟨K.good,K.cost,K.lv,K.zi.mono le⟩
variable {c0 c1 c2:Nat}(hD:1<=D)(h:l6 w)(hE:Z6 w.s.l.length l)(hd:JK w.s l D)
include hD h hE hd
theorem B56(K0:KC R A8 D c0 (e.kd 0))(K1:KC R A8 D c1 (e.kd 1))(x0:c0 * D<=X)(x1:c1 * D<=X):GN w (Ox R w e A8 l) (3 * ((e.kd 0).size * X)+3 * ((e.kd 1).size * X)) X:=by
 have lb:A8<2 ^ 31:=by have:=K0.lv;omega
 have s0:=Td (e.kd 0) X;have s1:=Td (e.kd 1) X;have A:=K0.run h hE hD hd x0;unfold Ox;simp only;generalize J4 R w (e.kd 0) A8 l=a at A ⊢;obtain⟨a1,a2,a3⟩:=A;have B:=K1.run a1.i (hE.mono a1.ext.le) hD (hd.mono hE a1.dn (z1q _)) x1;generalize J4 R a.1 (e.kd 1) A8 l=b at B ⊢;obtain⟨b1,b2,b3⟩:=B;have V:=Qk b1.i lb;generalize b.1.fresh A8=v at V ⊢;obtain⟨v1,v2,v3⟩:=V;have t1:=oH v1 (l:=[v.2]) (by simpa using v2);have al:=v1.lt (b1.lt a2);have g1:=EO t1.i (a:=a.2) (b:=v.2) al v2 (e.kd 0) (c:=X) (by have e1:=v1.at (b1.lt a2) (b1.at a2 a3);exact zMq e1 v3)
 have vl:=g1.lt (show v.2<(v.1.Y2 [v.2]).s.l.length from v2);have vd:=g1.at (show v.2<(v.1.Y2 [v.2]).s.l.length from v2) v3;have bl:=g1.lt (show b.2<(v.1.Y2 [v.2]).s.l.length from v1.lt b2);have bd:=g1.at (show b.2<(v.1.Y2 [v.2]).s.l.length from v1.lt b2) (v1.at b2 b3);generalize (v.1.Y2 [v.2]).agree a.2 v.2 (e.kd 0)=w1 at g1 vl vd bl bd ⊢;have N:=kJ g1.i (k:=8) (x:=v.2) (y:=0) (r:=0) (.inr (.inl rfl)) vl (λh=>absurd rfl h) (by rw[BU g1.i.ok (j:=0) (by omega)];exact vd);generalize w1.made 8 v.2 0=n at N ⊢;obtain⟨n1,n2,n3⟩:=N;have g2:=EO n1.i (a:=b.2) (b:=n.2) (n1.lt bl) n2 (e.kd 1) (c:=X) (by have:=n1.at bl bd;omega);exact⟨((((((a1.trans b1).trans t1).trans g1).trans n1).trans g2)).mono (by omega),g2.lt n2,z7q (g2.at n2 n3) (zhq _)⟩
theorem B5V{f a:Nat}(hl:A8<2 ^ 31)(fl:f<w.s.l.length)(al:a<w.s.l.length)(fd:w.s.dn f<=X)(ad:w.s.dn a<=X)(hX:1<=X):GN w (WE w f a e A8) (2 * X+X) X:=by
 have f5:=h.ok.five;unfold WE;split
 ·exact⟨(GC.refl h).mono (zhq _),by simp only;omega,by simp only;rw[BU h.ok (by omega)];omega⟩
 split
 ·have g:=EO h (a:=a) (b:=4) al (by omega) (e.kd 1) (c:=X+1) (by rw[nE h.ok];omega);exact⟨g.mono (by omega),g.lt (by omega),g.at (by omega) (by rw[nE h.ok];exact hX)⟩
 split
 ·simp only
  have V:=Qk h hl;generalize w.fresh A8=v at V ⊢;obtain⟨v1,v2,v3⟩:=V;have U:=Qk v1.i hl;generalize v.1.fresh A8=u at U ⊢;obtain⟨u1,u2,u3⟩:=U;have M:=kJ u1.i (k:=9) (x:=v.2) (y:=u.2) (r:=0) (.inr (.inr rfl)) (u1.lt v2) (λ_=>u2) (by have:=u1.at v2 v3;omega);generalize u.1.made 9 v.2 u.2=m at M ⊢;obtain⟨m1,m2,m3⟩:=M;have g1:=EO m1.i (a:=f) (b:=m.2) (m1.lt (u1.lt (v1.lt fl))) m2 (e.kd 0) (c:=X) (by have:=m1.at (u1.lt (v1.lt fl)) (u1.at (v1.lt fl) (v1.at fl fd));omega);have g2:=EO g1.i (a:=a) (b:=v.2) (g1.lt (m1.lt (u1.lt (v1.lt al)))) (g1.lt (m1.lt (u1.lt v2))) (e.kd 1) (c:=X) (by have e1:=g1.at (m1.lt (u1.lt (v1.lt al))) (m1.at (u1.lt (v1.lt al)) (u1.at (v1.lt al) (v1.at al ad)));have e2:=g1.at (m1.lt (u1.lt v2)) (m1.at (u1.lt v2) (u1.at v2 v3));omega)
  exact⟨((((v1.trans u1).trans m1).trans g1).trans g2).mono (by omega),g2.lt (g1.lt (m1.lt u2)),z7q (g2.at (g1.lt (m1.lt u2)) (g1.at (m1.lt u2) (m1.at u2 u3))) (zhq _)⟩
 split
 ·rename_i k9;have kn:=h.ok.YP (h.ok.Hg fl);rw[k9]at kn;have ks:=WJ h.ok fl;have two:∃x y,w.s.I5 (w.s.root f)=[x,y]:=by
   match hk:w.s.I5 (w.s.root f),kn with
   |[x,y],_=>exact⟨x,y,rfl⟩
  obtain⟨x,y,hxy⟩:=two;have lx:x<w.s.l.length:=h.ok.NS fl (by rw[hxy];simp);have ly:y<w.s.l.length:=h.ok.NS fl (by rw[hxy];simp);rw[hxy]at ks ⊢;simp only[zeq,zOq,zfq,zWq]at ks;have g:=EO h (a:=a) (b:=x) al lx (e.kd 1) (c:=2 * X) (by omega);have e1:w.s.dn y<=X:=by omega
  exact⟨g.mono (by omega),g.lt ly,g.at ly e1⟩
 ·exact⟨⟨(Good.refl h).fails _ _,by simp only;rw[W9];exact AR.refl _,z7q (A28 ..) (zgq _ _)⟩,by rw[W9];simp only;omega,by rw[W9];simp only;rw[BU h.ok (by omega)];omega⟩
theorem B7C(K0:KC R A8 D c0 (e.kd 0))(K1:KC R A8 D c1 (e.kd 1))(x0:c0 * D<=X)(x1:c1 * D<=X)(hX:1<=X):GN w (UN R w e A8 l) (3 * ((e.kd 0).size * X)+3 * ((e.kd 1).size * X)) X:=by
 have lb:A8<2 ^ 31:=by have:=K0.lv;omega
 have s0:=Td (e.kd 0) X;have s1:=Td (e.kd 1) X;have A:=K0.run h hE hD hd x0;unfold UN;simp only;generalize J4 R w (e.kd 0) A8 l=f at A ⊢;obtain⟨a1,a2,a3⟩:=A;have B:=K1.run a1.i (hE.mono a1.ext.le) hD (hd.mono hE a1.dn (z1q _)) x1;generalize J4 R f.1 (e.kd 1) A8 l=a at B ⊢;obtain⟨b1,b2,b3⟩:=B;have ab:=a1.trans b1;exact(ab.n (B5V hD b1.i (hE.mono ab.ext.le) (hd.mono hE ab.dn (z1q _)) lb (b1.lt a2) b2 (b1.at a2 a3) b3 hX)).mono (by omega) (z1q _)
end
end Go.Su

/-
 HOW MANY ROUNDS an inference takes: the other kinds of expressions; the bound.
-/
namespace Go.Su
section
variable {R:Rec}{w:W}{A8 D X:Nat}{l:List EN}{c0 c1 c2:Nat}(hD:1<=D)(h:l6 w)(hE:Z6 w.s.l.length l)(hd:JK w.s l D)
include hD h hE hd
variable {e:Ex}
theorem B7Z(K0:KC R A8 D c0 (e.kd 0))(K1:KC R A8 D c1 (e.kd 1))(hA:EL D e)(ha:e.a.E8≠0->e.a.rc)(z0:1<=c0)(z1:1<=c1)(hX:c0 * c1 * D<=X):GN w (VD R w e A8 l) (3 * ((e.kd 0).size * X)+3 * ((e.kd 1).size * X)) X:=by
 have lb:A8<2 ^ 31:=by have:=K0.lv;omega
 have s0:=Td (e.kd 0) X;have s1:=Td (e.kd 1) X;have d0:D<=c0 * D:=zrq D z0;have x1:c1 * (c0 * D)<=X:=by rw[<- Nat.mul_assoc,Nat.mul_comm c1 c0];exact hX
 have x0:c0 * D<=X:=z7q (zrq _ z1) x1;have x1':c1 * D<=X:=z7q (Nat.mul_le_mul_left c1 d0) x1;have zi:=hA.a;unfold VD;split
 ·rename_i k;have A:=K0.run h hE hD hd x0;simp only;generalize J4 R w (e.kd 0) A8 l=a at A ⊢;obtain⟨a1,a2,a3⟩:=A;have N:=A99 a1.i (ha k);generalize a.1.put e.a=n at N ⊢;obtain⟨n1,n2,n3⟩:=N;have g:=EO n1.i (a:=a.2) (b:=n.2) (n1.lt a2) n2 (e.kd 0) (c:=2 * X) (by have:=n1.at a2 a3;omega);have ag:=(a1.trans n1).trans g;have fl:=g.lt n2;have fd:=g.at n2 n3;generalize n.1.agree a.2 n.2 (e.kd 0)=w1 at g ag fl fd ⊢;exact(ag.n (K1.run ag.i ((hE.mono ag.ext.le).app (Z6.one (s:=e.name) fl)) hD ((hd.mono hE ag.dn (z1q _)).app (JK.one (z7q fd (by omega)))) x1')).mono (by omega) (z1q _)
 split
 ·have A:=K0.A6A h hE hD hd x0;have B:=K0.dn1 h hE hD hd;simp only;generalize J4 R w (e.kd 0) (A8+1) l=a at A B ⊢;obtain⟨a1,a2,a3⟩:=A;split
  ·exact(a1.n ((K1.up d0).run a1.i ((hE.mono a1.ext.le).app (Z6.one a2)) (by omega) ((hd.mono hE a1.dn d0).app (JK.one B)) x1)).mono (by omega) (z1q _)
  ·obtain⟨-,q2⟩:=Ba a1.i (n:=a.2) (A8:=A8) a2;have C:=A79 a1.i (n:=a.2) (A8:=A8) a2;generalize a.1.above a.2 A8=q at q2 C ⊢;have v:=A8V C q2;have av:=a1.trans v;exact(av.n ((K1.up d0).run v.i ((hE.mono av.ext.le).app λx hx=>by rw[z5q.1 hx];exact⟨v.lt a2,q2.1⟩) (by omega) ((hd.mono hE av.dn d0).app (JK.one (v.at a2 B))) x1)).mono (by omega) (z1q _)
 ·have A:=K0.run h hE hD hd x0;have B:=K0.dn h hE hD hd;simp only;generalize J4 R w (e.kd 0) A8 l=a at A B ⊢;obtain⟨a1,a2,a3⟩:=A;exact(a1.n ((K1.up d0).run a1.i ((hE.mono a1.ext.le).app (Z6.one a2)) (by omega) ((hd.mono hE a1.dn d0).app (JK.one B)) x1)).mono (by omega) (z1q _)
theorem B78(K0:KC R A8 D c0 (e.kd 0))(K1:KC R A8 D c1 (e.kd 1))(hA:EL D e)(ha:e.a.E8≠0->e.a.rc)(hb:e.b.E8≠0->e.b.rc)(x0:c0 * D<=X)(x1:c1 * D<=X)(hX:D<=X):GN w (VM R w e A8 l) (3 * ((e.kd 0).size * X)+3 * ((e.kd 1).size * X)) X:=by
 have lb:A8+1<2 ^ 31:=by have:=K0.lv;omega
 have s0:=Td (e.kd 0) X;have s1:=Td (e.kd 1) X;have zi:=hA.a;have bnn:=hA.b;unfold VM;simp only;have P:=A1Y h (A8:=A8+1) ha lb;generalize w.Ae e.a (A8+1)=p at P ⊢;obtain⟨p1,p2,p3⟩:=P;have Q:=A1Y p1.i (A8:=A8+1) hb lb;generalize p.1.Ae e.b (A8+1)=r at Q ⊢;obtain⟨r1,r2,r3⟩:=Q;have F:=kJ r1.i (k:=9) (x:=p.2) (y:=r.2) (r:=D) (.inr (.inr rfl)) (r1.lt p2) (λ_=>r2) (by have:=r1.at p2 p3;omega);generalize r.1.made 9 p.2 r.2=f at F ⊢;obtain⟨f1,f2,f3⟩:=F;have pf:=(p1.trans r1).trans f1;have pd:=f1.at (r1.lt p2) (r1.at p2 p3);have B:=K0.A6A (l:=l++[⟨e.name,f.2,[]⟩,⟨e.arg,p.2,[]⟩]) f1.i ((hE.mono pf.ext.le).app λx hx=>by
  simp only[zdq,zmq,or_false]at hx;rcases hx with rfl | rfl
  ·exact⟨f2,by simp⟩
  ·exact⟨f1.lt (r1.lt p2),by simp⟩) hD ((hd.mono hE pf.dn (z1q _)).app λx hx=>by
  simp only[zdq,zmq,or_false]at hx;rcases hx with rfl | rfl
  ·exact f3
  ·exact z7q pd (by omega)) x0
 generalize J4 R f.1 (e.kd 0) (A8+1) (l++[⟨e.name,f.2,[]⟩,⟨e.arg,p.2,[]⟩])=b at B ⊢;obtain⟨b1,b2,b3⟩:=B;have g:=EO b1.i (a:=b.2) (b:=r.2) b2 (b1.lt (f1.lt r2)) (e.kd 0) (c:=2 * X) (by have:=b1.at (f1.lt r2) (f1.at r2 r3);omega);generalize b.1.agree b.2 r.2 (e.kd 0)=w1 at g ⊢;have pg:=(pf.trans b1).trans g;have fl:=g.lt (b1.lt f2);have fd:=g.at (b1.lt f2) (b1.at f2 f3);split
 ·exact(pg.n (K1.run pg.i ((hE.mono pg.ext.le).app (Z6.one fl)) hD ((hd.mono hE pg.dn (z1q _)).app (JK.one fd)) x1)).mono (by omega) (z1q _)
 ·obtain⟨-,q2⟩:=Ba g.i (n:=f.2) (A8:=A8) fl;have C:=A79 g.i (n:=f.2) (A8:=A8) fl;generalize w1.above f.2 A8=q at q2 C ⊢;have v:=A8V C q2;have av:=pg.trans v;exact(av.n (K1.run v.i ((hE.mono av.ext.le).app λx hx=>by rw[z5q.1 hx];exact⟨v.lt fl,q2.1⟩) hD ((hd.mono hE av.dn (z1q _)).app (JK.one (v.at fl fd))) x1)).mono (by omega) (z1q _)
theorem B55(K0:KC R A8 D c0 (e.kd 0))(K1:KC R A8 D c1 (e.kd 1))(K2:KC R A8 D c2 (e.kd 2))(x0:c0 * D<=X)(x1:c1 * D<=X)(x2:c2 * D<=X):GN w (Ow R w e A8 l) (3 * ((e.kd 0).size * X)+3 * ((e.kd 1).size * X)+3 * ((e.kd 2).size * X)) X:=by
 have lb:A8<2 ^ 31:=by have:=K0.lv;omega
 have s0:=Td (e.kd 0) X;have s1:=Td (e.kd 1) X;have s2:=Td (e.kd 2) X;unfold Ow;simp only;have A:=K0.run h hE hD hd x0;generalize J4 R w (e.kd 0) A8 l=c at A ⊢;obtain⟨q1,q2,q3⟩:=A;have f5:=q1.i.ok.five;have g0:=EO q1.i (a:=c.2) (b:=1) q2 (by omega) (e.kd 0) (c:=X) (by rw[BU q1.i.ok (j:=1) (by omega)];exact q3);have cg:=q1.trans g0;generalize c.1.agree c.2 1 (e.kd 0)=w0 at g0 cg ⊢;have A:=K1.run cg.i (hE.mono cg.ext.le) hD (hd.mono hE cg.dn (z1q _)) x1;generalize J4 R w0 (e.kd 1) A8 l=a at A ⊢;obtain⟨a1,a2,a3⟩:=A;have ca:=cg.trans a1;have B:=K2.run ca.i (hE.mono ca.ext.le) hD (hd.mono hE ca.dn (z1q _)) x2;generalize J4 R a.1 (e.kd 2) A8 l=b at B ⊢;obtain⟨b1,b2,b3⟩:=B;have V:=Qk b1.i lb;generalize b.1.fresh A8=v at V ⊢;obtain⟨v1,v2,v3⟩:=V;have t1:=oH v1 (l:=[v.2]) (by simpa using v2);have al:a.2<(v.1.Y2 [v.2]).s.l.length:=v1.lt (b1.lt a2);have ad:(v.1.Y2 [v.2]).s.dn a.2<=X:=v1.at (b1.lt a2) (b1.at a2 a3);have bl:b.2<(v.1.Y2 [v.2]).s.l.length:=v1.lt b2;have bd:(v.1.Y2 [v.2]).s.dn b.2<=X:=v1.at b2 b3;have vl:v.2<(v.1.Y2 [v.2]).s.l.length:=v2;have vd:(v.1.Y2 [v.2]).s.dn v.2<=0:=v3;generalize v.1.Y2 [v.2]=w1 at t1 al ad bl bd vl vd ⊢;have g1:=EO t1.i (a:=a.2) (b:=v.2) al vl (e.kd 1) (c:=X) (by omega);have bl':=g1.lt bl;have bd':=g1.at bl bd;have vl':=g1.lt vl;have vd':=g1.at vl vd;generalize w1.agree a.2 v.2 (e.kd 1)=w2 at g1 bl' bd' vl' vd' ⊢;have g2:=EO g1.i (a:=b.2) (b:=v.2) bl' vl' (e.kd 2) (c:=X) (by omega);exact⟨((((ca.trans b1).trans t1).trans g1).trans g2).mono (by omega),g2.lt vl',z7q (g2.at vl' vd') (zhq _)⟩
end
theorem B0M{R:Rec}{A8 D X c r v:Nat}{l:List EN}(hD:1<=D)(hX:c * D<=X)(hl:A8<2 ^ 31):∀(rs:List (F5×Ex))(w:W),(∀a∈rs,KC R A8 D c a.2/\a.1.pat=true)->l6 w->Z6 w.s.l.length l->JK w.s l D->v<w.s.l.length->r<w.s.l.length->w.s.dn v=0->w.s.dn r=0->GN w (Gd R A8 l v r rs w) (3 * ((rs.map λa=>a.2.size).sum * X)) X
 |[],w,_,h,hE,hd,hv,hr,v0,r0=>⟨(GC.refl h).mono (zhq _),hr,by simp only[Gd];omega⟩
 | (p,k)::rs,w,ha,h,hE,hd,hv,hr,v0,r0=>by
   obtain⟨K,h3⟩:=ha _ (z4q ..);have sk:=Td k X;rw[Gd];split
   ·exact⟨(GC.refl h).mono (zhq _),by have:=h.ok.five;simp only;omega,by simp only;rw[BU h.ok (by omega)];omega⟩
   ·rename_i g;simp only;have P:=B1J hl p v ⟨w.s,[],[],P9⟩ h.ok hv v0 h3;generalize BG A8 p v ⟨w.s,[],[],P9⟩=q at P ⊢;have g0:Good w ({ w with s:=q.1.s }:W):=h.s (w':={ w with s:=q.1.s }) P.g.ok P.g.ext rfl rfl rfl;have hs:(({ w with s:=q.1.s }:W).fails q.2 q.1.bad).s=q.1.s:=W9 ..;have g1:GC w (({ w with s:=q.1.s }:W).fails q.2 q.1.bad) 0:=⟨g0.fails q.2 q.1.bad,by rw[hs];exact P.dn,Zm (Classical.not_not.1 g) (by have:=P.cost;simp only at this;omega)⟩;generalize ({ w with s:=q.1.s }:W).fails q.2 q.1.bad=w1 at g1 hs ⊢;have MZ:Z6 w1.s.l.length (l++if q.2≠0 then[]else List.zipWith (λs n=>(⟨s,n,[]⟩:EN)) q.1.names q.1.nodes):=by
     refine(hE.mono g1.ext.le).app ?_;split
     ·intro x hx;cases hx
     ·intro x hx;obtain⟨j,hj,rfl⟩:=zkq.1 hx;simp only[zwq]at hj;rw[zvq];exact⟨by rw[hs];exact P.g.nd (by simp) _ (z9q (by omega)),by simp⟩
    have B8x:JK w1.s (l++if q.2≠0 then[]else List.zipWith (λs n=>(⟨s,n,[]⟩:EN)) q.1.names q.1.nodes) D:=by
     refine(hd.mono hE g1.dn (z1q _)).app ?_;split
     ·intro x hx;cases hx
     ·intro x hx;obtain⟨j,hj,rfl⟩:=zkq.1 hx;simp only[zwq]at hj;rw[zvq];have:q.1.s.dn (q.1.nodes[j]'(by omega))=0:=P.nd (by simp) _ (z9q (by omega));simp only;rw[hs,this];exact zhq _
    have B:=K.run g1.i MZ hD B8x hX;generalize J4 R w1 k A8 (l++if q.2≠0 then[]else List.zipWith (λs n=>(⟨s,n,[]⟩:EN)) q.1.names q.1.nodes)=b at B ⊢;obtain⟨b1,b2,b3⟩:=B;have gb:=g1.trans b1;have g2:=EO b1.i (a:=b.2) (b:=r) b2 (gb.lt hr) k (c:=X) (by have:=gb.dn r hr;omega);have gg:=gb.trans g2;have A:=B0M hD hX hl rs _ (λa h=>ha a (z2q _ h)) g2.i (hE.mono gg.ext.le) (hd.mono hE gg.dn (z1q _)) (gg.lt hv) (gg.lt hr) ((gg.dn v hv).trans v0) ((gg.dn r hr).trans r0);refine(gg.n A).mono ?_ (z1q _);rw[zeq,zfq,zcq];simp only;omega
theorem B4Y{R:Rec}{w:W}{A8 D X c:Nat}{l:List EN}(hD:1<=D)(h:l6 w)(hE:Z6 w.s.l.length l)(hd:JK w.s l D){e:Ex}(hX:c * D<=X)(K0:KC R A8 D c (e.kd 0))(hk:∀k∈e.D6,KC R A8 D c k)(hp:∀p∈e.J8,p.pat=true)(hn:e.D6.length=e.J8.length+1):GN w (LD R w e A8 l) (3 * ((e.D6.map Ex.size).sum * X)) X:=by
 have lb:A8<2 ^ 31:=by have:=K0.lv;omega
 have s0:=Td (e.kd 0) X;unfold LD;simp only;have A:=K0.run h hE hD hd hX;generalize J4 R w (e.kd 0) A8 l=a at A ⊢;obtain⟨a1,a2,a3⟩:=A;have V:=Qk a1.i lb;generalize a.1.fresh A8=v at V ⊢;obtain⟨v1,v2,v3⟩:=V;have g:=EO v1.i (a:=a.2) (b:=v.2) (v1.lt a2) v2 (e.kd 0) (c:=X) (by have:=v1.at a2 a3;omega);have vl:=g.lt v2;have vd:=g.at v2 v3;generalize v.1.agree a.2 v.2 (e.kd 0)=w0 at g vl vd ⊢;have Q:=Qk g.i lb;generalize w0.fresh A8=r at Q ⊢;obtain⟨r1,r2,r3⟩:=Q;have t:=oH r1 (l:=[v.2,r.2]) (by intro x hx;simp only[zdq,zmq,or_false]at hx;rcases hx with rfl | rfl;exact r1.lt vl;exact r2);have gg:=(((a1.trans v1).trans g).trans t);have B:=B0M (R:=R) (A8:=A8) (l:=l) (v:=v.2) (r:=r.2) hD hX lb (e.J8.zip e.D6.tail) _ (λx hx=>by have:=zlq hx;exact⟨hk x.2 (zzq this.2),hp x.1 this.1⟩) t.i (hE.mono gg.ext.le) (hd.mono hE gg.dn (z1q _)) (t.lt vl) r2 (zXq.1 (t.at vl vd)) (zXq.1 r3)
 refine(gg.n B).mono ?_ (z1q _);have e1:((e.J8.zip e.D6.tail).map λa=>a.2.size)=e.D6.tail.map Ex.size:=by
  have e1:((e.J8.zip e.D6.tail).map λa=>a.2.size)=((e.J8.zip e.D6.tail).map Prod.snd).map Ex.size:=by rw[List.map_map];rfl
  rw[e1,List.map_snd_zip (by rw[List.length_tail];omega)]
 rw[e1]
 match hk:e.D6,hn with
 |k::ks,_=>
   have e2:e.kd 0=k:=by simp[Ex.kd,hk]
   rw[e2]at s0 ⊢;simp only[List.tail_cons,zeq,zfq];rw[zcq];omega
theorem B4n{R:Rec}{A8 D X c:Nat}{l:List EN}(hD:1<=D)(hX:c * D<=X){want:Nat}(hw:want<4):∀(ks:List Ex)(w:W),(∀k∈ks,KC R A8 D c k)->l6 w->Z6 w.s.l.length l->JK w.s l D->GC w (LZ R A8 l want ks w) (3 * ((ks.map Ex.size).sum * X))
 |[],w,_,h,_,_=>(GC.refl h).mono (zhq _)
 |k::ks,w,hk,h,hE,hd=>by have K:=hk k (z4q ..);have sk:=Td k X;obtain⟨a1,a2,a3⟩:=K.run h hE hD hd hX;rw[LZ];have f5:=a1.i.ok.five;have g:=EO a1.i (a:=(J4 R w k A8 l).2) (b:=want) a2 (by omega) k (c:=X) (by rw[BU a1.i.ok hw];exact a3);have ag:=a1.trans g;refine(ag.trans (B4n hD hX hw ks _ (λx hx=>hk x (z2q _ hx)) g.i (hE.mono ag.ext.le) (hd.mono hE ag.dn (z1q _)))).mono ?_;rw[zeq,zfq,zcq];omega
end Go.Su

/-
 HOW MANY ROUNDS an inference takes: the bound.
-/
namespace Go.Su
set_option linter.defProp false
def RCo(R:Rec)(e:Ex):Prop:=∃c,Cx e.size c/\wR R e c
variable {e:Ex}
def sz1(h:e.D6.length=1):e.size=1+(e.kd 0).size:=by
 rw[Ex.size_eq]
 match hk:e.D6,h with
 |[a],_=>simp[Ex.kd,hk]
def sz2(h:e.D6.length=2):e.size=(e.kd 0).size+(e.kd 1).size+1:=by
 rw[Ex.size_eq]
 match hk:e.D6,h with
 |[a,c],_=>simp[Ex.kd,hk];omega
def sz3(h:e.D6.length=3):e.size=(e.kd 0).size+(e.kd 1).size+(e.kd 2).size+1:=by
 rw[Ex.size_eq]
 match hk:e.D6,h with
 |[a,c,d],_=>simp[Ex.kd,hk];omega
def A7a(e:Ex):1<=e.size:=by have:=e.size_eq;omega
def RCo.all{R:Rec}{n:Nat}:∀(ks:List Ex),(∀k∈ks,RCo R k/\k.size<=n)->∃c,Cx n c/\∀k∈ks,wR R k c
 |[],_=>⟨1,Cx.one n,by simp⟩
 |k::ks,h=>by
   obtain⟨⟨c,h1,h2⟩,h3⟩:=h k (z4q ..);obtain⟨d,h4,h5⟩:=RCo.all ks λx hx=>h x (z2q _ hx);refine⟨max c d,(h1.mono h3).max h4,λx hx=>?_⟩;rcases zdq.1 hx with rfl | hx
   ·exact h2.mono (zpq ..)
   ·exact(h5 x hx).mono (zjq ..)
def BC(R:Rec)(e:Ex):Prop:=∃c,Cx e.size c/\∀(A8:Nat)(l:List EN)(w:W)(D X:Nat),A8+e.size<2 ^ 30->l6 w->w.types=[]->Z6 w.s.l.length l->1<=D->EL D e->JK w.s l D->c * D<=X->GN w (U0 R w e A8 l) (3 * (e.size * X)-2 * X) X
def B50{R:Rec}(hr:e.right=true)(hk:∀k∈e.D6,Cn R k/\RCo R k):BC R e:=by
 obtain⟨k1,k2,k3⟩:=Ex.tY hr;have na:=Ex.kK hr;have nb:=Ex.A0P hr;have kc:∀{k:Ex}{c A8 D:Nat},k∈e.D6->wR R k c->A8+e.size<2 ^ 30->EL D e->KC R A8 D c k:=λhm hc hl hA=>⟨(hk _ hm).1,hc,by have:=Ex.FR hm;omega,hA.kid hm⟩;have kd:∀i,i<e.D6.length->∃c,Cx (e.kd i).size c/\wR R (e.kd i) c:=λi hi=>(hk _ (Ex.Cr hi)).2;have X1:∀{c D X:Nat},1<=c->1<=D->c * D<=X->D<=X/\1<=X:=λ{c D X} hc hD hX=>by have:=zrq D hc;omega
 have up:∀{c c' D X:Nat},c<=c'->c' * D<=X->c * D<=X:=λ{c c' D X} h g=>z7q (zJq D h) g;by_cases g:e.E8=1
 ·refine⟨1,Cx.one _,λA8 l w D X hl h ht hE hD hA hd hX=>?_⟩;obtain⟨x1,x2⟩:=X1 (z1q 1) hD hX;have se:=Td e X;unfold U0;rw[C8 g];exact(B6Q h (by omega) hE hd ht).mono (by omega) x1
 by_cases g:e.E8=2\/e.E8=3\/e.E8=4\/e.E8=5
 ·refine⟨1,Cx.one _,λA8 l w D X hl h ht hE hD hA hd hX=>?_⟩;have f5:=h.ok.five;unfold U0;rw[A7 (by omega),C8 g];exact⟨(GC.refl h).mono (zhq _),by simp only;omega,by simp only;rw[BU h.ok (by omega)];omega⟩
 by_cases g:e.E8=6
 ·have n2:e.D6.length=2:=by simp[g,O5]at k3;omega
  obtain⟨c0,p0,q0⟩:=kd 0 (by omega);obtain⟨c1,p1,q1⟩:=kd 1 (by omega);have se:=sz2 n2;refine⟨c0+c1,by rw[se];exact p0.add p1 (A7a _) (A7a _),λA8 l w D X hl h ht hE hD hA hd hX=>?_⟩;have K0:=kc (Ex.Cr (i:=0) (by omega)) q0 hl hA;have K1:=kc (Ex.Cr (i:=1) (by omega)) q1 hl hA;have s0:=Td (e.kd 0) X;have s1:=Td (e.kd 1) X;unfold U0;rw[A7 (by omega),A7 (by omega),C8 g];have A:=K0.run h hE hD hd (up (zgq ..) hX);have A':=K0.dn h hE hD hd;simp only;generalize J4 R w (e.kd 0) A8 l=a at A A' ⊢;obtain⟨a1,a2,a3⟩:=A;have B:=K1.run a1.i (hE.mono a1.ext.le) hD (hd.mono hE a1.dn (z1q _)) (up (Nat.le_add_left ..) hX);have B':=K1.dn a1.i (hE.mono a1.ext.le) hD (hd.mono hE a1.dn (z1q _));generalize J4 R a.1 (e.kd 1) A8 l=b at B B' ⊢;obtain⟨b1,b2,b3⟩:=B;refine((a1.trans b1).n (kJ b1.i (k:=7) (.inl rfl) (b1.lt a2) (λ_=>b2) (zMq (b1.at a2 A') B'))).mono ?_ ?_
  ·rw[se,zcq,zcq];omega
  ·rw[<- zcq];exact hX
 by_cases g:e.E8=7
 ·refine⟨1,Cx.one _,λA8 l w D X hl h ht hE hD hA hd hX=>?_⟩;unfold U0;rw[A7 (by omega),A7 (by omega),A7 (by omega),C8 g];have V:=Qk h (show A8<2 ^ 31 by omega);generalize w.fresh A8=v at V ⊢;obtain⟨v1,v2,v3⟩:=V;have t1:=oH v1 (l:=[v.2]) (by simpa using v2);have vd:(v.1.Y2 [v.2]).s.dn v.2<=0:=v3;exact(t1.n (kJ t1.i (k:=8) (r:=0) (.inr (.inl rfl)) v2 (λh=>absurd rfl h) (by rw[BU t1.i.ok (j:=0) (by omega)];exact vd))).mono (by omega) (zhq _)
 by_cases g:e.E8=8
 ·have n2:e.D6.length=2:=by simp[g,O5]at k3;omega
  obtain⟨c0,p0,q0⟩:=kd 0 (by omega);obtain⟨c1,p1,q1⟩:=kd 1 (by omega);have se:=sz2 n2;refine⟨max c0 c1,(p0.mono (by omega)).max (p1.mono (by omega)),λA8 l w D X hl h ht hE hD hA hd hX=>?_⟩;have K0:=kc (Ex.Cr (i:=0) (by omega)) q0 hl hA;have K1:=kc (Ex.Cr (i:=1) (by omega)) q1 hl hA;unfold U0;rw[A7 (by omega),A7 (by omega),A7 (by omega),A7 (by omega),C8 g];refine(B56 hD h hE hd K0 K1 (up (zpq ..) hX) (up (zjq ..) hX)).mono ?_ (z1q _);rw[se,zcq,zcq];omega
 by_cases g:e.E8=9
 ·have n1:e.D6.length=1:=by simp[g,O5]at k3;omega
  obtain⟨c0,p0,q0⟩:=kd 0 (by omega);have se:=sz1 n1;refine⟨c0+1,by rw[se,Nat.add_comm];exact p0.succ (A7a _),λA8 l w D X hl h ht hE hD hA hd hX=>?_⟩;have K0:=kc (Ex.Cr (i:=0) (by omega)) q0 hl hA;have s0:=Td (e.kd 0) X;have zi:=hA.a;unfold U0;rw[A7 (by omega),A7 (by omega),A7 (by omega),A7 (by omega),A7 (by omega),C8 g];have P:=A1Y h (A8:=A8) na.1 (by omega);simp only;generalize w.Ae e.a A8=p at P ⊢;obtain⟨r1,r2,r3⟩:=P;have hE':=(hE.mono r1.ext.le).app (Z6.one (s:=e.name) r2);have Eg:JK p.1.s (l++[⟨e.name,p.2,[]⟩]) D:=(hd.mono hE r1.dn (z1q _)).app (JK.one (by omega));have B:=K0.run r1.i hE' hD Eg (up (zgq ..) hX);have B':=K0.dn r1.i hE' hD Eg;generalize J4 R p.1 (e.kd 0) A8 (l++[⟨e.name,p.2,[]⟩])=b at B B' ⊢;obtain⟨b1,b2,b3⟩:=B;refine((r1.trans b1).n (kJ b1.i (k:=9) (r:=D+c0 * D) (.inr (.inr rfl)) (b1.lt r2) (λ_=>b2) (zMq (b1.at r2 (by omega)) B'))).mono ?_ ?_
  ·rw[se,zcq];omega
  ·rw[zcq,Nat.one_mul]at hX;omega
 by_cases g:e.E8=10
 ·have n2:e.D6.length=2:=by simp[g,O5]at k3;omega
  obtain⟨c0,p0,q0⟩:=kd 0 (by omega);obtain⟨c1,p1,q1⟩:=kd 1 (by omega);have se:=sz2 n2;refine⟨max c0 c1,(p0.mono (by omega)).max (p1.mono (by omega)),λA8 l w D X hl h ht hE hD hA hd hX=>?_⟩;have K0:=kc (Ex.Cr (i:=0) (by omega)) q0 hl hA;have K1:=kc (Ex.Cr (i:=1) (by omega)) q1 hl hA;have x0:=up (zpq c0 c1) hX;unfold U0;rw[A7 (by omega),A7 (by omega),A7 (by omega),A7 (by omega),A7 (by omega),A7 (by omega),C8 g];refine(B7C hD h hE hd K0 K1 x0 (up (zjq ..) hX) (X1 p0.1 hD x0).2).mono ?_ (z1q _);rw[se,zcq,zcq];omega
 by_cases g:e.E8=11
 ·have n2:e.D6.length=2:=by simp[g,O5]at k3;omega
  obtain⟨c0,p0,q0⟩:=kd 0 (by omega);obtain⟨c1,p1,q1⟩:=kd 1 (by omega);have se:=sz2 n2;refine⟨c0 * c1,by rw[se];exact p0.mul p1,λA8 l w D X hl h ht hE hD hA hd hX=>?_⟩;have K0:=kc (Ex.Cr (i:=0) (by omega)) q0 hl hA;have K1:=kc (Ex.Cr (i:=1) (by omega)) q1 hl hA;unfold U0;rw[A7 (by omega),A7 (by omega),A7 (by omega),A7 (by omega),A7 (by omega),A7 (by omega),A7 (by omega),C8 g];refine(B7Z hD h hE hd K0 K1 hA na.1 p0.1 p1.1 hX).mono ?_ (z1q _);rw[se,zcq,zcq];omega
 by_cases g:e.E8=12
 ·have n2:e.D6.length=2:=by simp[g,O5]at k3;omega
  obtain⟨c0,p0,q0⟩:=kd 0 (by omega);obtain⟨c1,p1,q1⟩:=kd 1 (by omega);have se:=sz2 n2;refine⟨max c0 c1,(p0.mono (by omega)).max (p1.mono (by omega)),λA8 l w D X hl h ht hE hD hA hd hX=>?_⟩;have K0:=kc (Ex.Cr (i:=0) (by omega)) q0 hl hA;have K1:=kc (Ex.Cr (i:=1) (by omega)) q1 hl hA;have x0:=up (zpq c0 c1) hX;unfold U0;rw[A7 (by omega),A7 (by omega),A7 (by omega),A7 (by omega),A7 (by omega),A7 (by omega),A7 (by omega),A7 (by omega),C8 g];refine(B78 hD h hE hd K0 K1 hA na.1 nb x0 (up (zjq ..) hX) (X1 p0.1 hD x0).1).mono ?_ (z1q _);rw[se,zcq,zcq];omega
 by_cases g:e.E8=13
 ·have n3:e.D6.length=3:=by simp[g,O5]at k3;omega
  obtain⟨c0,p0,q0⟩:=kd 0 (by omega);obtain⟨c1,p1,q1⟩:=kd 1 (by omega);obtain⟨c2,p2,q2⟩:=kd 2 (by omega);have se:=sz3 n3;refine⟨max c0 (max c1 c2),(p0.mono (by omega)).max ((p1.mono (by omega)).max (p2.mono (by omega))),λA8 l w D X hl h ht hE hD hA hd hX=>?_⟩;have K0:=kc (Ex.Cr (i:=0) (by omega)) q0 hl hA;have K1:=kc (Ex.Cr (i:=1) (by omega)) q1 hl hA;have K2:=kc (Ex.Cr (i:=2) (by omega)) q2 hl hA;have s0:=Td (e.kd 0) X;unfold U0;rw[A7 (by omega),A7 (by omega),A7 (by omega),A7 (by omega),A7 (by omega),A7 (by omega),A7 (by omega),A7 (by omega),A7 (by omega),C8 g];refine(B55 hD h hE hd K0 K1 K2 (up (zpq ..) hX) (up (z7q (zpq c1 c2) (zjq ..)) hX) (up (z7q (zjq c1 c2) (zjq ..)) hX)).mono ?_ (z1q _);rw[se,zcq,zcq,zcq];omega
 by_cases g:e.E8=14
 ·have n1:e.D6.length=e.J8.length+1:=by simp[g,O5]at k3;omega
  obtain⟨c,p,q⟩:=RCo.all (R:=R) (n:=e.size) e.D6 λk hm=>⟨(hk k hm).2,zEq (Ex.FR hm)⟩;refine⟨c,p,λA8 l w D X hl h ht hE hD hA hd hX=>?_⟩;unfold U0;rw[A7 (by omega),A7 (by omega),A7 (by omega),A7 (by omega),A7 (by omega),A7 (by omega),A7 (by omega),A7 (by omega),A7 (by omega),A7 (by omega),C8 g];have m0:=Ex.Cr (e:=e) (i:=0) (by omega);refine(B4Y hD h hE hd hX (kc m0 (q _ m0) hl hA) (λk hm=>kc hm (q k hm) hl hA) (λp hp=>?_) n1).mono ?_ (z1q _)
  ·have:=Ex.A4s hr hp;unfold F5.right at this;rw[zbq]at this;exact this.1
  ·rw[e.size_eq,zcq];omega
 by_cases g:e.E8=15
 ·have n1:e.D6.length=1:=by simp[g,O5]at k3;omega
  obtain⟨c0,p0,q0⟩:=kd 0 (by omega);have se:=sz1 n1;refine⟨c0,p0.mono (by omega),λA8 l w D X hl h ht hE hD hA hd hX=>?_⟩;have K0:=kc (Ex.Cr (i:=0) (by omega)) q0 hl hA;have s0:=Td (e.kd 0) X;have zi:=hA.a;obtain⟨x1,x2⟩:=X1 p0.1 hD hX;unfold U0;rw[A7 (by omega),A7 (by omega),A7 (by omega),A7 (by omega),A7 (by omega),A7 (by omega),A7 (by omega),A7 (by omega),A7 (by omega),A7 (by omega),A7 (by omega),C8 g];have A:=K0.run h hE hD hd hX;simp only;generalize J4 R w (e.kd 0) A8 l=a at A ⊢;obtain⟨a1,a2,a3⟩:=A;have N:=A99 a1.i (na.2 g);generalize a.1.put e.a=n at N ⊢;obtain⟨n1,n2,n3⟩:=N;have g:=EO n1.i (a:=a.2) (b:=n.2) (n1.lt a2) n2 (e.kd 0) (c:=2 * X) (by have:=n1.at a2 a3;omega);refine⟨((a1.trans n1).trans g).mono ?_,g.lt n2,z7q (g.at n2 n3) (by omega)⟩;rw[se,zcq];omega
 ·obtain⟨c,p,q⟩:=RCo.all (R:=R) (n:=e.size) e.D6 λk hm=>⟨(hk k hm).2,zEq (Ex.FR hm)⟩;refine⟨c,p,λA8 l w D X hl h ht hE hD hA hd hX=>?_⟩;have f5:=h.ok.five;unfold U0;rw[A7 (by omega),A7 (by omega),A7 (by omega),A7 (by omega),A7 (by omega),A7 (by omega),A7 (by omega),A7 (by omega),A7 (by omega),A7 (by omega),A7 (by omega),A7 (by omega)];have G:=B4n (R:=R) (A8:=A8) (l:=l) hD hX (want:=if e.op=7 then 2 else 0) (by split<;>omega) e.D6 w (λk hm=>kc hm (q k hm) hl hA) h hE hd;have j:(if e.op=5\/e.op=6\/e.op=7 then 1 else 0)<4:=by split<;>omega
  refine⟨G.mono ?_,by simp only;have:=G.i.ok.five;omega,by simp only;rw[BU G.i.ok j];omega⟩;rw[e.size_eq,zcq];omega
def A8j:∀(f:Nat)(e:Ex),e.right=true->RCo (N9 f) e
 |0,e,hr=>⟨1,Cx.one _,λA8 l w D X hl h hE hD hA hd hX=>⟨AR.refl _,zgq _ _,by simp only[N9];rw[BU h.ok (by omega)];omega⟩⟩
 |f+1,e,hr=>by obtain⟨c,c1,c2⟩:=B50 (R:=N9 f) hr λk hk=>⟨Ir f k (Ex.Hf hr hk),A8j f k (Ex.Hf hr hk)⟩;refine⟨c,c1,λA8 l w D X hl h hE hD hA hd hX=>?_⟩;have h0:l6 { w with types:=[],vars:=[],D6:=[] }:=⟨h.ok,by simp,⟨by simp,by simp⟩,trivial⟩;obtain⟨a1,a2,a3⟩:=c2 A8 l { w with types:=[],vars:=[],D6:=[] } D X hl h0 rfl hE hD hA hd hX;rw[N9];exact⟨a1.dn,a1.phi,a3⟩
def B44(mx:Nat):(EU mx).uv=0:=by unfold E9.uv;rw[List.countP_eq_zero];intro d hd;obtain⟨n,hn,rfl⟩:=zDq hd;obtain⟨a,b⟩:=nK (mx:=mx) (n:=n) (z3q hn);rw[b];simp[Md];omega
def B5k{mx D:Nat}(hr:e.right=true)(hs:e.size<=100)(hmx:mx<=65536)(hA:EL D e)(hD:1<=D)(hD2:D<=2 ^ 12):(K5 e mx).1.s.J7+10<2 ^ 62:=by
 obtain⟨c,⟨h1,h2⟩,h3⟩:=A8j e.size e hr;have hc:c<2 ^ 41:=by
  rcases zIq c (2 ^ 41)with g | g
  ·exact g
  ·exfalso;have a:(2 ^ 41) ^ 5<=c ^ 5:=zAq g 5;have b:4 ^ (e.size+1)<=4 ^ 101:=zyq (by omega) (by omega);have:(4:Nat) ^ 101<(2 ^ 41) ^ 5:=by decide
   omega
 let w0:W:=⟨EU mx,P9,0,[],[],[]⟩
 have I:l6 w0:=⟨OQ hmx,by simp[w0],⟨by simp[w0],by simp[w0]⟩,trivial⟩;obtain⟨-,b,-⟩:=h3 1 [] w0 D (c * D) (by omega) I (λx hx=>by cases hx) hD hA (λx hx=>by cases hx) (z1q _);have e0:w0.phi=5 * mx+5:=by simp only[W.phi,w0,E9.AZ,B44,F6];simp[EU]
 rw[e0]at b;have hx:(N9 e.size e 1 [] w0).1.s.J7<=(N9 e.size e 1 [] w0).1.phi:=by unfold W.phi;omega
 have e1:(K5 e mx).1=(N9 e.size e 1 [] w0).1:=rfl;rw[e1];have m1:c * D<=2 ^ 41 * 2 ^ 12:=zLq (zEq hc) hD2;have m2:e.size * (c * D)<=100 * (2 ^ 41 * 2 ^ 12):=zLq hs m1;omega
end Go.Su

/-
 TWO RUNS SIDE BY SIDE: what is asked of the stores' operations; steps.
-/
namespace Go.Su
set_option linter.defProp false
inductive L2{α β : Type}(R : α -> β->Prop):List α->List β->Prop
 |nil:L2 R [] []
 |cons {a : α} {b : β} {l:List α} {k:List β}:R a b->L2 R l k->L2 R (a::l) (b::k)
namespace L2
variable {α β : Type}{R Q : α -> β->Prop}{l:List α}{k:List β}
def mono(h:∀a b,R a b->Q a b)(g:L2 R l k):L2 Q l k:=by
 induction g with
 |nil=>exact .nil
 |cons a _ ih=>exact .cons (h _ _ a) ih
def len(g:L2 R l k):k.length=l.length:=by
 induction g with
 |nil=>rfl
 |cons a _ ih=>simp[ih]
def app{l2:List α}{k2:List β}(g:L2 R l k)(h:L2 R l2 k2):L2 R (l++l2) (k++k2):=by
 induction g with
 |nil=>exact h
 |cons a _ ih=>exact .cons a ih
def getD{a : α}{b : β}(g:L2 R l k)(h:R a b)(i:Nat):R (l.getD i a) (k.getD i b):=by
 induction g generalizing i with
 |nil=>exact h
 |cons x _ ih=>cases i with
   |zero=>exact x
   |succ i=>simpa using ih i
def one{a : α}{b : β}(h:R a b):L2 R [a] [b]:=.cons h .nil
end L2
structure Q_ where
 Wd:Type
 le:Wd->Wd->Prop
 rf:∀a,le a a
 tr:∀{a b c:Wd},le a b->le b c->le a c
 T:Wd->E9->E9->Prop
 N:Wd->Nat->Nat->Prop
 nm:∀{a b:Wd}{n n':Nat},le a b->N a n n'->N b n n'
 lv:Nat->Nat->Prop
 lvs:∀{a b:Nat},lv a b->lv (a+1) (b+1)
 R9:Nat
 leaf:∀(o:Wd)(j:Nat),j<5->N o j j
 tick:∀{o:Wd}{S S':E9},T o S S'->T o S.tick S'.tick
 var:∀{o:Wd}{S S':E9}{A8 lev':Nat},S.Ok->S'.Ok->T o S S'->lv A8 lev'->A8<2 ^ 31->lev'<2 ^ 31->((S.var A8).2.2≠7->(S'.var lev').2.2=(S.var A8).2.2/\∃o',le o o'/\T o' (S.var A8).1 (S'.var lev').1/\N o' (S.var A8).2.1 (S'.var lev').2.1)/\((S.var A8).2.2=7->(S'.var lev').2.2≠0\/R9<(S'.var lev').1.cnt)
 make:∀{o:Wd}{S S':E9}{k a b a' b':Nat},S.Ok->S'.Ok->T o S S'->(k=7\/k=8\/k=9)->N o a a'->(k≠8->N o b b')->((S.make k a b).2.2≠7->(S'.make k a' b').2.2=(S.make k a b).2.2/\∃o',le o o'/\T o' (S.make k a b).1 (S'.make k a' b').1/\N o' (S.make k a b).2.1 (S'.make k a' b').2.1)/\((S.make k a b).2.2=7->(S'.make k a' b').2.2≠0\/R9<(S'.make k a' b').1.cnt)
 put:∀{o:Wd}{S S':E9}{t:Ty},S.Ok->S'.Ok->T o S S'->t.rc->((S.put t).2.2≠7->(S'.put t).2.2=(S.put t).2.2/\∃o',le o o'/\T o' (S.put t).1 (S'.put t).1/\N o' (S.put t).2.1 (S'.put t).2.1)/\((S.put t).2.2=7->(S'.put t).2.2≠0\/R9<(S'.put t).1.cnt)
 agree:∀{o:Wd}{S S':E9}{a b a' b':Nat},S.Ok->S'.Ok->T o S S'->N o a a'->N o b b'->((S.agree a b).2.2.2≠7->(S'.agree a' b').2=(S.agree a b).2/\∃o',le o o'/\T o' (S.agree a b).1 (S'.agree a' b').1)/\((S.agree a b).2.2.2=7->(S'.agree a' b').2.2.2≠0\/R9<(S'.agree a' b').1.cnt)
 copy:∀{o:Wd}{S S':E9}{n n':Nat}{f f' t t':List Nat},S.Ok->S'.Ok->T o S S'->N o n n'->L2 (N o) f f'->L2 (N o) t t'->f.length<=t.length->((S.copy n f t).2.2≠7->(S'.copy n' f' t').2.2=(S.copy n f t).2.2/\∃o',le o o'/\T o' (S.copy n f t).1 (S'.copy n' f' t').1/\N o' (S.copy n f t).2.1 (S'.copy n' f' t').2.1)/\((S.copy n f t).2.2=7->(S'.copy n' f' t').2.2≠0\/R9<(S'.copy n' f' t').1.cnt)
 vars:∀{o:Wd}{S S':E9}{n n' A8 lev':Nat},S.Ok->S'.Ok->T o S S'->N o n n'->lv A8 lev'->L2 (N o) ((S.vars n).filter λv=>decide (A8<S.X8 v)) ((S'.vars n').filter λv=>decide (lev'<S'.X8 v))
 E8:∀{o:Wd}{S S':E9}{n n':Nat},S.Ok->S'.Ok->T o S S'->N o n n'->S'.F9 (S'.root n')=S.F9 (S.root n)
 D6:∀{o:Wd}{S S':E9}{n n':Nat},S.Ok->S'.Ok->T o S S'->N o n n'->L2 (N o) (S.I5 (S.root n)) (S'.I5 (S'.root n'))
 lt:∀{o:Wd}{S S':E9}{n n':Nat},S.Ok->S'.Ok->T o S S'->N o n n'->n<S.l.length/\n'<S'.l.length
section
variable (M:Q_)
mutual
def DR(o:M.Wd):DD->DD->Prop
 |.mk n ts vs ks,.mk n' ts' vs' ks'=>M.N o n n'/\L2 (M.N o) ts ts'/\L2 (M.N o) vs vs'/\Fq o ks ks'
def Fq(o:M.Wd):List DD->List DD->Prop
 |[],[]=>True
 |k::ks,k'::ks'=>DR o k k'/\Fq o ks ks'
 |_,_=>False
end
variable {M}
mutual
theorem DR.mono{o p:M.Wd}(le:M.le o p):∀{d d':DD},DR M o d d'->DR M p d d'
 |.mk n ts vs ks,.mk n' ts' vs' ks',h=>by rw[DR]at h ⊢;exact⟨M.nm le h.1,h.2.1.mono λ_ _=>M.nm le,h.2.2.1.mono λ_ _=>M.nm le,Fq.mono le h.2.2.2⟩
theorem Fq.mono{o p:M.Wd}(le:M.le o p):∀{d d':List DD},Fq M o d d'->Fq M p d d'
 |[],[],_=>by rw[Fq];trivial
 |k::ks,k'::ks',h=>by rw[Fq]at h ⊢;exact⟨DR.mono le h.1,Fq.mono le h.2⟩
 |[],_::_,h=>by rw[Fq]at h;exact h.elim;all_goals simp
 |_::_,[],h=>by rw[Fq]at h;exact h.elim;all_goals simp
end
def Fq.app{o:M.Wd}:∀{a a' b b':List DD},Fq M o a a'->Fq M o b b'->Fq M o (a++b) (a'++b')
 |[],[],b,b',_,h=>h
 |k::ks,k'::ks',b,b',h,g=>by rw[Fq]at h;rw[ztq,ztq,Fq];exact⟨h.1,Fq.app h.2 g⟩
 |[],_::_,_,_,h,_=>by rw[Fq]at h;exact h.elim;all_goals simp
 |_::_,[],_,_,h,_=>by rw[Fq]at h;exact h.elim;all_goals simp
structure Al(M:Q_)(o:M.Wd)(w w':W):Prop where
 t:M.T o w.s w'.s
 e:w'.err=w.err
 b:w'.bad=w.bad
 ty:L2 (M.N o) w.types w'.types
 vs:L2 (M.N o) w.vars w'.vars
 ks:Fq M o w.D6 w'.D6
structure SR(M:Q_)(o:M.Wd)(w w':W):Prop where
 i:l6 w
 i':l6 w'
 r:(w.err≠7/\Al M o w w')\/(w.err=7/\(w'.err≠0\/M.R9<w'.s.cnt))
def NR(M:Q_)(o:M.Wd)(w w':W)(n n':Nat):Prop:=n<w.s.l.length/\n'<w'.s.l.length/\(w.err≠7->M.N o n n')
structure Stp(M:Q_)(o:M.Wd)(w w':W)(o1:M.Wd)(w1 w1':W):Prop where
 le:M.le o o1
 g:Good w w1
 g':Good w' w1'
 k:w.err=7->w1.err=7
 s:SR M o1 w1 w1'
variable {o:M.Wd}{w':W}
def Stp.refl{w:W}(h:SR M o w w'):Stp M o w w' o w w':=⟨M.rf o,Good.refl h.i,Good.refl h.i',λe=>e,h⟩
def Stp.trans{a b c:M.Wd}{w x x' y y':W}(h:Stp M a w w' b x x')(k:Stp M b x x' c y y'):Stp M a w w' c y y':=⟨M.tr h.le k.le,h.g.trans k.g,h.g'.trans k.g',λe=>k.k (h.k e),k.s⟩
def NR.mono{a b:M.Wd}{w x x':W}{n n':Nat}(h:NR M a w w' n n')(k:Stp M a w w' b x x'):NR M b x x' n n':=⟨k.g.lt h.1,k.g'.lt h.2.1,λe=>M.nm k.le (h.2.2 λe7=>e (k.k e7))⟩
def IV(M:Q_)(o:M.Wd)(w w':W)(q q':W×Nat):Prop:=∃o1,Stp M o w w' o1 q.1 q'.1/\NR M o1 q.1 q'.1 q.2 q'.2
def Stp.out{a b:M.Wd}{w x x':W}{q q':W×Nat}(h:Stp M a w w' b x x')(k:IV M b x x' q q'):IV M a w w' q q':=by obtain⟨c,k1,k2⟩:=k;exact⟨c,h.trans k1,k2⟩
def NR.leaf{w:W}(h:SR M o w w'){j:Nat}(hj:j<5):NR M o w w' j j:=⟨by have:=h.i.ok.five;omega,by have:=h.i'.ok.five;omega,λ_=>M.leaf o j hj⟩
def VR(w:W)(q:E9×Nat×Nat)(b:GY):W×Nat:=if w.err≠0 then(w,0)else(({ w with s:=q.1 }:W).fails q.2.2 b,q.2.1)
def dh(w:W)(e:Nat)(b:GY)(h:w.err=0):(w.fails e b).bad=if e=0\/e=7 then w.bad else b:=by
 unfold W.fails;split
 ·rename_i g;simp only
  by_cases h7:e=7
  ·rw[A7 (λh=>h h7),C8 (.inr h7)]
  ·rw[C8 h7,A7];intro h;rcases h with h | h
   ·exact g.2 h
   ·exact h7 h
 ·rename_i g;have:e=0:=Classical.not_not.1 λh2=>g ⟨h,h2⟩;rw[C8 (.inl this)]
def A0o(w:W)(e:Nat)(b:GY):(w.fails e b).types=w.types/\(w.fails e b).vars=w.vars/\(w.fails e b).D6=w.D6:=by unfold W.fails;split<;>exact⟨rfl,rfl,rfl⟩
def Al.mono{p:M.Wd}{w:W}{S S':E9}(h:Al M o w w')(le:M.le o p)(t:M.T p S S'):Al M p { w with s:=S } { w' with s:=S' }:=⟨t,h.e,h.b,h.ty.mono λ_ _=>M.nm le,h.vs.mono λ_ _=>M.nm le,h.ks.mono le⟩
def Al.fails{w:W}(h:Al M o w w')(e:Nat)(b:GY):Al M o (w.fails e b) (w'.fails e b):=by
 obtain⟨a1,a2,a3⟩:=A0o w e b;obtain⟨c1,c2,c3⟩:=A0o w' e b;refine⟨by rw[W9,W9];exact h.t,?_,?_,by rw[a1,c1];exact h.ty,by rw[a2,c2];exact h.vs,by rw[a3,c3];exact h.ks⟩
 ·by_cases e0:w.err=0
  ·rw[Ef _ _ _ e0,Ef _ _ _ (h.e.trans e0)]
  ·rw[Ub _ _ _ e0,Ub _ _ _ (by rw[h.e];exact e0)];exact h.e
 ·by_cases e0:w.err=0
  ·rw[dh _ _ _ e0,dh _ _ _ (h.e.trans e0),h.b]
  ·have f1:w.fails e b=w:=by unfold W.fails;rw[A7 λg=>e0 g.1]
   have f2:w'.fails e b=w':=by unfold W.fails;rw[A7 λg=>e0 (h.e.symm.trans g.1)]
   rw[f1,f2];exact h.b
def lift{w:W}{q q':E9×Nat×Nat}{b b':GY}(H:SR M o w w')(G:Good w (VR w q b).1/\(VR w q b).2<(VR w q b).1.s.l.length)(G':Good w' (VR w' q' b').1/\(VR w' q' b').2<(VR w' q' b').1.s.l.length)(hO:w.err=0->Al M o w w'->(q.2.2≠7->b'=b/\q'.2.2=q.2.2/\∃o',M.le o o'/\M.T o' q.1 q'.1/\M.N o' q.2.1 q'.2.1)/\(q.2.2=7->q'.2.2≠0\/M.R9<q'.1.cnt)):IV M o w w' (VR w q b) (VR w' q' b'):=by
 rcases H.r with⟨h7,A⟩ | ⟨h7,p⟩
 ·by_cases e0:w.err=0
  ·obtain⟨h1,h2⟩:=hO e0 A;have IE:w'.err=0:=A.e.trans e0;unfold VR at G G' ⊢;rw[A7 (λg=>g e0)]at G ⊢;rw[A7 (λg=>g IE)]at G' ⊢;by_cases q7:q.2.2=7
   ·have ew:(({ w with s:=q.1 }:W).fails q.2.2 b).err=7:=by rw[Ef _ _ _ (by exact e0)];exact q7
    refine⟨o,⟨M.rf o,G.1,G'.1,λh=>absurd h h7,⟨G.1.i,G'.1.i,.inr ⟨ew,?_⟩⟩⟩,G.2,G'.2,λh=>absurd ew h⟩;rcases h2 q7 with h | h
    ·exact .inl (by rw[Ef _ _ _ (by exact IE)];exact h)
    ·exact .inr (by rw[W9];exact h)
   ·obtain⟨hb,he,o',l1,t1,n1⟩:=h1 q7;rw[hb,he]at G' ⊢;have ew:(({ w with s:=q.1 }:W).fails q.2.2 b).err≠7:=by rw[Ef _ _ _ (by exact e0)];exact q7
    exact⟨o',⟨l1,G.1,G'.1,λh=>absurd h h7,⟨G.1.i,G'.1.i,.inl ⟨ew,(A.mono l1 t1).fails _ _⟩⟩⟩,G.2,G'.2,λ_=>n1⟩
  ·have IE:w'.err≠0:=by rw[A.e];exact e0
   unfold VR;rw[C8 e0,C8 IE];exact⟨o,Stp.refl H,NR.leaf H (by omega)⟩
 ·have e0:w.err≠0:=by omega
  have G2:=G'.1.ext.cnt;unfold VR at G ⊢;rw[C8 e0]at G ⊢;refine⟨o,⟨M.rf o,G.1,G'.1,λh=>h,⟨H.i,G'.1.i,.inr ⟨h7,?_⟩⟩⟩,G.2,G'.2,λh=>absurd h7 h⟩;by_cases e1:w'.err≠0
  ·rw[C8 e1];exact .inl e1
  ·rcases p with p | p
   ·exact absurd p e1
   ·exact .inr (z0q p G2)
def Qu{w:W}{A8 lev':Nat}(H:SR M o w w')(L:M.lv A8 lev')(l1:A8<2 ^ 31)(l2:lev'<2 ^ 31):IV M o w w' (w.fresh A8) (w'.fresh lev') :=lift (q:=w.s.var A8) (q':=w'.s.var lev') (b:=P9) (b':=P9) H (Ab H.i l1) (Ab H.i' l2) λ_ A=>by obtain⟨a,c⟩:=M.var H.i.ok H.i'.ok A.t L l1 l2;exact⟨λh=>⟨rfl,a h⟩,c⟩
def kS{w:W}{k a b a' b':Nat}(H:SR M o w w')(hk:k=7\/k=8\/k=9)(ha:NR M o w w' a a')(hb:k≠8->NR M o w w' b b'):IV M o w w' (w.made k a b) (w'.made k a' b') :=lift (q:=w.s.make k a b) (q':=w'.s.make k a' b') (b:=P9) (b':=P9) H (Dx H.i hk ha.1 λh=>(hb h).1) (Dx H.i' hk ha.2.1 λh=>(hb h).2.1) λe0 A=>by obtain⟨x,c⟩:=M.make H.i.ok H.i'.ok A.t hk (ha.2.2 (by omega)) (λh=>(hb h).2.2 (by omega));exact⟨λh=>⟨rfl,x h⟩,c⟩
def B0a{w:W}{t:Ty}(H:SR M o w w')(ht:t.rc):IV M o w w' (w.put t) (w'.put t) :=lift (q:=w.s.put t) (q':=w'.s.put t) (b:=P9) (b':=P9) H (QM H.i ht) (QM H.i' ht) λe0 A=>by obtain⟨x,c⟩:=M.put H.i.ok H.i'.ok A.t ht;exact⟨λh=>⟨rfl,x h⟩,c⟩
def GR{w:W}{a b a' b':Nat}(H:SR M o w w')(e:Ex)(ha:NR M o w w' a a')(hb:NR M o w w' b b'):∃o1,Stp M o w w' o1 (w.agree a b e) (w'.agree a' b' e):=by
 have g:=U4 H.i ha.1 hb.1 e;have g':=U4 H.i' ha.2.1 hb.2.1 e;have e1:∀(w:W)(a b:Nat),w.agree a b e=(VR w ((w.s.agree a b).1,0,(w.s.agree a b).2.2.2) ⟨e.lo,e.hi,(w.s.agree a b).2.2.2,(w.s.agree a b).2.1,(w.s.agree a b).2.2.1,Z5⟩).1:=by intro w a b;unfold W.agree VR;split<;>rfl
 have e2:∀(w:W)(a b:Nat),(VR w ((w.s.agree a b).1,0,(w.s.agree a b).2.2.2) ⟨e.lo,e.hi,(w.s.agree a b).2.2.2,(w.s.agree a b).2.1,(w.s.agree a b).2.2.1,Z5⟩).2=0:=by intro w a b;unfold VR;split<;>rfl
 rw[e1]at g g' ⊢;rw[e1 w'];obtain⟨o1,h,-⟩:=lift (b:=⟨e.lo,e.hi,(w.s.agree a b).2.2.2,(w.s.agree a b).2.1,(w.s.agree a b).2.2.1,Z5⟩) (b':=⟨e.lo,e.hi,(w'.s.agree a' b').2.2.2,(w'.s.agree a' b').2.1,(w'.s.agree a' b').2.2.1,Z5⟩) H ⟨g,by rw[e2];have:=g.i.ok.five;omega⟩ ⟨g',by rw[e2];have:=g'.i.ok.five;omega⟩ λe0 A=>by obtain⟨x,c⟩:=M.agree H.i.ok H.i'.ok A.t (ha.2.2 (by omega)) (hb.2.2 (by omega));refine⟨λh=>?_,c⟩;obtain⟨y1,o',y2,y3⟩:=x h;exact⟨by rw[y1],by rw[y1],o',y2,y3,M.leaf _ 0 (by omega)⟩
 exact⟨o1,h⟩
end
end Go.Su

/-
 TWO RUNS SIDE BY SIDE: names, what is bound, patterns.
-/
namespace Go.Su
set_option linter.defProp false
namespace L2
variable {α β : Type}{R : α -> β->Prop}{l:List α}{k:List β}
def rev(g:L2 R l k):L2 R l.reverse k.reverse:=by
 induction g with
 |nil=>exact .nil
 |cons a _ ih=>rw[zTq,zTq];exact ih.app (.one a)
def find{p : α->Bool}{q : β->Bool}(g:L2 R l k)(h:∀a b,R a b->p a=q b):(l.find? p=none/\k.find? q=none)\/∃a b,l.find? p=some a/\k.find? q=some b/\R a b:=by
 induction g with
 |nil=>exact .inl ⟨rfl,rfl⟩
 | @cons a b l k x _ ih=>
   rw[y1q,y1q,<- h a b x];cases p a with
   |true=>exact .inr ⟨a,b,rfl,rfl,x⟩
   |false=>exact ih
end L2
section
variable {M:Q_}{o o1:M.Wd}{w w' x x':W}
def Stp.types(h:Stp M o w w' o1 x x'){l l':List Nat}(hl:∀a∈l,a<x.s.l.length)(Yo:∀a∈l',a<x'.s.l.length)(hr:x.err≠7->L2 (M.N o1) l l'):Stp M o w w' o1 (x.Y2 l) (x'.Y2 l') :=
 ⟨h.le,Da h.g hl,Da h.g' Yo,h.k,⟨(Da h.g hl).i,(Da h.g' Yo).i,by
   rcases h.s.r with⟨h7,A⟩ | h
   ·exact .inl ⟨h7,A.t,A.e,A.b,hr h7,A.vs,A.ks⟩
   ·exact .inr h⟩⟩
def Stp.vars(h:Stp M o w w' o1 x x'){l l':List Nat}(hl:(∀a∈l,a<x.s.l.length)/\l.length<2 ^ 29)(Yo:(∀a∈l',a<x'.s.l.length)/\l'.length<2 ^ 29)(hr:x.err≠7->L2 (M.N o1) l l'):Stp M o w w' o1 (x.Si l) (x'.Si l') :=
 ⟨h.le,Ho h.g hl,Ho h.g' Yo,h.k,⟨(Ho h.g hl).i,(Ho h.g' Yo).i,by
   rcases h.s.r with⟨h7,A⟩ | h
   ·exact .inl ⟨h7,A.t,A.e,A.b,A.ty,hr h7,A.ks⟩
   ·exact .inr h⟩⟩
def Stp.one(h:Stp M o w w' o1 x x'){n n':Nat}(hn:NR M o1 x x' n n'):Stp M o w w' o1 (x.Y2 [n]) (x'.Y2 [n']) :=h.types (by intro a ha;rw[z5q.1 ha];exact hn.1) (by intro a ha;rw[z5q.1 ha];exact hn.2.1) λe=>.one (hn.2.2 e)
def IV.tell{q q':W×Nat}(h:IV M o w w' q q'):IV M o w w' (W.tell q) (W.tell q'):=by
 obtain⟨o1,s,n⟩:=h;refine⟨o1,s.types ?_ ?_ λe=>?_,n⟩
 ·intro a ha;rcases z8q.1 ha with ha | ha
  ·exact s.s.i.ty a ha
  ·rw[z5q.1 ha];exact n.1
 ·intro a ha;rcases z8q.1 ha with ha | ha
  ·exact s.s.i'.ty a ha
  ·rw[z5q.1 ha];exact n.2.1
 ·rcases s.s.r with⟨-,A⟩ | h
  ·exact A.ty.app (.one (n.2.2 e))
  ·exact absurd h.1 e
variable {A8:Nat}
def A11(H:SR M o w w'){t:Ty}{lev':Nat}(ht:t.E8≠0->t.rc)(L:M.lv A8 lev')(l1:A8<2 ^ 31)(l2:lev'<2 ^ 31):IV M o w w' (w.Ae t A8) (w'.Ae t lev'):=by
 unfold W.Ae;split
 ·rename_i g;exact B0a H (ht g)
 ·exact(Qu H L l1 l2).tell
def B5h(H:SR M o w w'){n n' lev':Nat}(hn:NR M o w w' n n')(L:M.lv A8 lev'):Stp M o w w' o (w.above n A8).1 (w'.above n' lev').1/\(w.err≠7->L2 (M.N o) (w.above n A8).2 (w'.above n' lev').2):=by
 obtain⟨g,-⟩:=Ba H.i (n:=n) (A8:=A8) hn.1;obtain⟨g',-⟩:=Ba H.i' (n:=n') (A8:=lev') hn.2.1;refine⟨⟨M.rf o,g,g',λh=>h,⟨g.i,g'.i,?_⟩⟩,λe=>?_⟩
 ·rcases H.r with⟨h7,A⟩ | h
  ·exact .inl ⟨h7,M.tick A.t,A.e,A.b,A.ty,A.vs,A.ks⟩
  ·exact .inr h
 ·rcases H.r with⟨h7,A⟩ | h
  ·exact M.vars H.i.ok H.i'.ok A.t (hn.2.2 e) L
  ·exact absurd h.1 e
def B1T{A8 lev':Nat}(L:M.lv A8 lev')(l1:A8<2 ^ 31)(l2:lev'<2 ^ 31):∀(k:Nat){o:M.Wd}{w w':W},SR M o w w'->∃o1,Stp M o w w' o1 (W.many A8 k w) (W.many lev' k w')
 |0,o,w,w',H=>⟨o,Stp.refl H⟩
 |k+1,o,w,w',H=>by obtain⟨o1,s,-⟩:=(Qu H L l1 l2).tell;obtain⟨o2,s2⟩:=B1T L l1 l2 k s.s;exact⟨o2,s.trans s2⟩
def ER(M:Q_)(o:M.Wd)(w w':W)(l l':List EN):Prop:=Z6 w.s.l.length l/\Z6 w'.s.l.length l'/\(w.err≠7->L2 (λa b=>a.name=b.name/\M.N o a.node b.node/\L2 (M.N o) a.vars b.vars) l l')
def ER.mono{l l':List EN}(h:ER M o w w' l l')(s:Stp M o w w' o1 x x'):ER M o1 x x' l l':=⟨h.1.mono s.g.ext.le,h.2.1.mono s.g'.ext.le,λe=>(h.2.2 λe7=>e (s.k e7)).mono λa b g=>⟨g.1,M.nm s.le g.2.1,g.2.2.mono λ_ _=>M.nm s.le⟩⟩
def ER.app{l l' k k':List EN}(h:ER M o w w' l l')(g:ER M o w w' k k'):ER M o w w' (l++k) (l'++k'):=⟨h.1.app g.1,h.2.1.app g.2.1,λe=>(h.2.2 e).app (g.2.2 e)⟩
variable {s:ByteArray}
def ER.one{n n':Nat}(h:NR M o w w' n n'):ER M o w w' [⟨s,n,[]⟩] [⟨s,n',[]⟩]:=⟨Z6.one h.1,Z6.one h.2.1,λe=>.one ⟨rfl,h.2.2 e,.nil⟩⟩
def ER.vs{n n':Nat}{v v':List Nat}(h:NR M o w w' n n')(hv:∀a∈v,a<w.s.l.length)(TU:∀a∈v',a<w'.s.l.length)(hl:w.err≠7->L2 (M.N o) v v'):ER M o w w' [⟨s,n,v⟩] [⟨s,n',v'⟩]:=⟨λy hy=>by rw[z5q.1 hy];exact⟨h.1,hv⟩,λy hy=>by rw[z5q.1 hy];exact⟨h.2.1,TU⟩,λe=>.one ⟨rfl,h.2.2 e,hl e⟩⟩
def aH{q q':W×Nat}(H:SR M o w w')(h7:w.err=7)(G:NE w q)(G':NE w' q')(k:q.1.err=7)(k':w'.err≠0->q'.1.err≠0):IV M o w w' q q':=by
 refine⟨o,⟨M.rf o,G.1,G'.1,λ_=>k,⟨G.1.i,G'.1.i,.inr ⟨k,?_⟩⟩⟩,G.2,G'.2,λh=>absurd k h⟩;rcases H.r with⟨h,-⟩ | ⟨-,h⟩
 ·exact absurd h7 h
 ·rcases h with h | h
  ·exact .inl (k' h)
  ·exact .inr (z0q h G'.1.ext.cnt)
def A5V{A8:Nat}:∀(k:Nat)(w:W),w.err≠0->(W.many A8 k w).err=w.err
 |0,w,_=>rfl
 |k+1,w,h=>by
   have e:(w.fresh A8).1=w:=by unfold W.fresh;rw[C8 h]
   rw[W.many,A5V k _ (by simp only[W.tell,e];exact h)];simp only[W.tell,e]
def A53{e:Ex}{l:List EN}(h:w.err≠0):(w.name e A8 l).1.err=w.err:=by
 unfold W.name;split
 ·exact Ub _ _ _ h
 ·split
  ·rfl
  ·have:=A5V (A8:=A8) (w:=w);simp only;rename_i x _ _;have e1:=this x.vars.length h;rw[C8 (by rw[e1];exact h)];exact e1
def B66{e:Ex}{lev':Nat}{l l':List EN}(H:SR M o w w')(L:M.lv A8 lev')(l1:A8<2 ^ 31)(l2:lev'<2 ^ 31)(hE:ER M o w w' l l'):IV M o w w' (w.name e A8 l) (w'.name e lev' l'):=by
 have G:=uC H.i (e:=e) l1 hE.1;have G':=uC H.i' (e:=e) l2 hE.2.1;by_cases h7:w.err=7
 ·refine aH H h7 G G' ((A53 (by omega)).trans h7) λh=>by rw[A53 h];exact h
 ·have A:Al M o w w':=by
   rcases H.r with⟨-,A⟩ | ⟨h,-⟩
   ·exact A
   ·exact absurd h h7
  have hF:=(hE.2.2 h7).rev.find (p:=λx=>decide (x.name=e.name)) (q:=λx=>decide (x.name=e.name)) λa b h=>by rw[h.1]
  unfold W.name;rcases hF with⟨f1,f2⟩ | ⟨a,b,f1,f2,n1,n2,n3⟩
  ·rw[f1,f2];have k:(w.fails 6 ⟨e.lo,e.hi,6,0,0,e.name⟩).err≠7:=by
    by_cases e0:w.err=0
    ·rw[Ef _ _ _ e0];omega
    ·rw[Ub _ _ _ e0];exact h7
   have g:=(Good.refl H.i).fails 6 ⟨e.lo,e.hi,6,0,0,e.name⟩;have g':=(Good.refl H.i').fails 6 ⟨e.lo,e.hi,6,0,0,e.name⟩;have s:SR M o (w.fails 6 ⟨e.lo,e.hi,6,0,0,e.name⟩) (w'.fails 6 ⟨e.lo,e.hi,6,0,0,e.name⟩):=⟨g.i,g'.i,.inl ⟨k,A.fails _ _⟩⟩;exact⟨o,⟨M.rf o,g,g',λh=>absurd h h7,s⟩,NR.leaf s (j:=0) (by omega)⟩
  ·rw[f1,f2];simp only;obtain⟨a1,a2⟩:=hE.1 a (by simpa using znq f1);obtain⟨b1,b2⟩:=hE.2.1 b (by simpa using znq f2);have hl:=n3.len;by_cases v0:a.vars=[]
   ·have v0':b.vars=[]:=zaq.1 (by rw[hl,v0];rfl);rw[C8 v0,C8 v0'];exact⟨o,Stp.refl H,a1,b1,λ_=>n2⟩
   ·have v0':b.vars≠[]:=λh=>v0 (zaq.1 (by rw[<- hl,h];rfl));rw[A7 v0,A7 v0',hl];obtain⟨o1,s⟩:=B1T L l1 l2 a.vars.length H;have ht:=Qo (A8:=A8) a.vars.length w;have xL:=Qo (A8:=lev') a.vars.length w';generalize W.many A8 a.vars.length w=y at s ht ⊢;generalize W.many lev' a.vars.length w'=y' at s xL ⊢;refine s.out ?_;have cg:∀{y:W}{n:Nat}{vs:List Nat},l6 y->n<y.s.l.length->vs.length<=y.types.length->Good y (VR y (y.s.copy n vs y.types) P9).1/\(VR y (y.s.copy n vs y.types) P9).2<(VR y (y.s.copy n vs y.types) P9).1.s.l.length:=by
     intro y n vs hy hn hv;unfold VR;split
     ·exact⟨Good.refl hy,by have:=hy.ok.five;simp only;omega⟩
     ·obtain⟨c1,c2,c3⟩:=aC hy.ok hn (from_:=vs) (to:=y.types) hv hy.ty;exact⟨(hy.s (w':={ y with s:=(y.s.copy n vs y.types).1 }) c1 c2 rfl rfl rfl).fails _ _,by rw[W9];exact c3⟩
    exact lift (q:=y.s.copy a.node a.vars y.types) (q':=y'.s.copy b.node b.vars y'.types) (b:=P9) (b':=P9) s.s (cg s.s.i (s.g.lt a1) (by omega)) (cg s.s.i' (s.g'.lt b1) (by omega)) λe0 A1=>by obtain⟨x,c⟩:=M.copy s.s.i.ok s.s.i'.ok A1.t (M.nm s.le n2) (n3.mono λ_ _=>M.nm s.le) A1.ty (by omega);exact⟨λh=>⟨rfl,x h⟩,c⟩
end
section
variable {M:Q_}
structure PR(M:Q_)(o:M.Wd)(x x':PS):Prop where
 t:M.T o x.s x'.s
 names:x'.names=x.names
 nodes:L2 (M.N o) x.nodes x'.nodes
 bad:x'.bad=x.bad
def PR.mono{o p:M.Wd}{x x':PS}{S S':E9}(h:PR M o x x')(le:M.le o p)(t:M.T p S S'):PR M p { x with s:=S } { x' with s:=S' }:=⟨t,h.names,h.nodes.mono λ_ _=>M.nm le,h.bad⟩
def PO(M:Q_)(o:M.Wd)(q q':PS×Nat):Prop:=(q.2≠7->q'.2=q.2/\∃o',M.le o o'/\PR M o' q.1 q'.1)/\(q.2=7->q'.2≠0\/M.R9<q'.1.s.cnt)
def A6o{A8 lev':Nat}(L:M.lv A8 lev')(l1:A8<2 ^ 31)(l2:lev'<2 ^ 31):∀(k:Nat){o:M.Wd}{S S':E9},S.Ok->S'.Ok->M.T o S S'->
 ((E9.fresh A8 k S).2.2≠7->(E9.fresh lev' k S').2.2=(E9.fresh A8 k S).2.2/\∃o',M.le o o'/\M.T o' (E9.fresh A8 k S).1 (E9.fresh lev' k S').1/\L2 (M.N o') (E9.fresh A8 k S).2.1 (E9.fresh lev' k S').2.1)/\((E9.fresh A8 k S).2.2=7->(E9.fresh lev' k S').2.2≠0\/M.R9<(E9.fresh lev' k S').1.cnt)
 |0,o,S,S',ok,ok',t=>⟨λ_=>⟨rfl,o,M.rf o,t,.nil⟩,λh=>by simp[E9.fresh]at h⟩
 |k+1,o,S,S',ok,ok',t=>by
   obtain⟨a,c⟩:=M.var ok ok' t L l1 l2;obtain⟨k1,-⟩:=Ms ok l1;obtain⟨k2,-⟩:=Ms ok' l2;obtain⟨-,-,-,k3,-⟩:=ET l2 k _ k2;rw[E9.fresh,E9.fresh];by_cases e7:(S.var A8).2.2=7
   ·rw[A7 (by omega)];refine⟨λh=>absurd e7 h,λ_=>?_⟩;split
    ·rcases c e7 with h | h
     ·rename_i g;exact absurd g h
     ·exact .inr (z0q h k3)
    ·exact c e7
   ·obtain⟨he,o1,OC,t1,n1⟩:=a e7;rw[he];by_cases e0:(S.var A8).2.2=0
    ·rw[C8 e0,C8 e0];obtain⟨x,y⟩:=A6o L l1 l2 k k1 k2 t1;refine⟨λh=>?_,y⟩;obtain⟨h1,o2,LB,t2,n2⟩:=x h;exact⟨h1,o2,M.tr OC LB,t2,.cons (M.nm LB n1) n2⟩
    ·rw[A7 e0,A7 e0];exact⟨λ_=>⟨rfl,o1,OC,t1,.nil⟩,λh=>absurd h e7⟩
def A6p{o:M.Wd}{x x':PS}{lo hi:Int}{a b a' b':Nat}(ok:x.s.Ok)(ok':x'.s.Ok)(P:PR M o x x')(ha:M.N o a a')(hb:M.N o b b'):PO M o (x.agree lo hi a b) (x'.agree lo hi a' b'):=by obtain⟨h,c⟩:=M.agree ok ok' P.t ha hb;refine⟨λh7=>?_,c⟩;obtain⟨e,o1,le,t⟩:=h h7;refine⟨by simp only[PS.agree];rw[e],o1,le,t,P.names,P.nodes.mono λ_ _=>M.nm le,?_⟩;simp only[PS.agree];rw[e,P.bad]
end
end Go.Su

/-
 TWO RUNS SIDE BY SIDE: patterns.
-/
namespace Go.Su
set_option linter.defProp false
section
variable {M:Q_}
def A8C{o:M.Wd}{x x':PS}{A8 lev':Nat}{lo hi:Int}{n n' k many:Nat}(L:M.lv A8 lev')(l1:A8<2 ^ 31)(l2:lev'<2 ^ 31)(ok:x.s.Ok)(ok':x'.s.Ok)(hk:k=7/\many=2\/k=8/\many=1)(hn:n<x.s.l.length)(hn':n'<x'.s.l.length)(P:PR M o x x')(N:M.N o n n'):
 ((x.made A8 lo hi n k many).2.2.2≠7->(x'.made lev' lo hi n' k many).2.2.2=(x.made A8 lo hi n k many).2.2.2/\∃o',M.le o o'/\PR M o' (x.made A8 lo hi n k many).1 (x'.made lev' lo hi n' k many).1/\L2 (M.N o') (x.made A8 lo hi n k many).2.1 (x'.made lev' lo hi n' k many).2.1/\M.N o' (x.made A8 lo hi n k many).2.2.1 (x'.made lev' lo hi n' k many).2.2.1) /\
 ((x.made A8 lo hi n k many).2.2.2=7->(x'.made lev' lo hi n' k many).2.2.2≠0\/M.R9<(x'.made lev' lo hi n' k many).1.s.cnt):=by
 obtain⟨a,c⟩:=A6o L l1 l2 many ok ok' P.t;obtain⟨f1,f2,-,f4,f5,f6⟩:=ET l1 many x.s ok;obtain⟨g1,g2,-,g4,g5,g6⟩:=ET l2 many x'.s ok';have k3:k=7\/k=8\/k=9:=by omega
 have nd:∀(q:E9×List Nat×Nat),(∀y∈q.2.1,y<q.1.l.length)->q.2.1.length=many->q.2.1.getD 0 0<q.1.l.length/\q.2.1.getD (many-1) 0<q.1.l.length:=by
  intro q h1 h2;constructor
  all_goals
   rw[z6q,z3q (by omega)];exact h1 _ (z9q (by omega))
 unfold PS.made;simp only;generalize E9.fresh A8 many x.s=q at a c f1 f2 f4 f5 f6 ⊢;generalize E9.fresh lev' many x'.s=q' at a c g1 g2 g4 g5 g6 ⊢;have cont:q'.2.2=0->q'.1.cnt<=((q'.1.make k (q'.2.1.getD 0 0) (q'.2.1.getD (many-1) 0))).1.cnt/\((q'.1.make k (q'.2.1.getD 0 0) (q'.2.1.getD (many-1) 0)).2.2=0->(q'.1.make k (q'.2.1.getD 0 0) (q'.2.1.getD (many-1) 0)).1.cnt<=(({ x' with s:=(q'.1.make k (q'.2.1.getD 0 0) (q'.2.1.getD (many-1) 0)).1 }:PS).agree lo hi n' (q'.1.make k (q'.2.1.getD 0 0) (q'.2.1.getD (many-1) 0)).2.1).1.s.cnt):=λh0=>by obtain⟨n0,n1⟩:=nd q' g5 (g6 h0);obtain⟨m1,m2,m3,m4,m5,m6⟩:=GK g1 (k:=k) (x:=q'.2.1.getD 0 0) (y:=q'.2.1.getD (many-1) 0) k3 n0 (λ_=>n1);refine⟨m6,λ_=>?_⟩;exact(Zy m1 (z0q hn' (z7q g2.le m2.le)) m4).2.1.cnt
 by_cases e7:q.2.2=7
 ·rw[C8 (show q.2.2≠0 by omega)];refine⟨λh=>absurd e7 h,λ_=>?_⟩;split
  ·exact c e7
  ·rename_i h0;have h0:q'.2.2=0:=Classical.not_not.1 h0;obtain⟨y1,y2⟩:=cont h0;rcases c e7 with h | h
   ·exact absurd h0 h
   ·split
    ·exact .inr (z0q h y1)
    ·rename_i g;exact .inr (z0q h (z7q y1 (y2 (Classical.not_not.1 g))))
 ·obtain⟨he,o1,OC,t1,n1⟩:=a e7;by_cases e0:q.2.2=0
  ·have IE:q'.2.2=0:=he.trans e0;have nq:¬q.2.2≠0:=λg=>g e0;have nq':¬q'.2.2≠0:=λg=>g IE;simp only[A7 nq,A7 nq'];obtain⟨y0,y1⟩:=nd q f5 (f6 e0);obtain⟨z0,z1⟩:=nd q' g5 (g6 IE);obtain⟨a2,c2⟩:=M.make (k:=k) f1 g1 t1 k3 (n1.getD (M.leaf o1 0 (by omega)) 0) (λ_=>n1.getD (M.leaf o1 0 (by omega)) (many-1));obtain⟨m1,m2,m3,m4,m5,m6⟩:=GK f1 (k:=k) (x:=q.2.1.getD 0 0) (y:=q.2.1.getD (many-1) 0) k3 y0 (λ_=>y1);obtain⟨p1,p2,p3,p4,p5,p6⟩:=GK g1 (k:=k) (x:=q'.2.1.getD 0 0) (y:=q'.2.1.getD (many-1) 0) k3 z0 (λ_=>z1);obtain⟨-,ct⟩:=cont IE;generalize q.1.make k (q.2.1.getD 0 0) (q.2.1.getD (many-1) 0)=z at a2 c2 m1 m2 m3 m4 m5 m6 ⊢;generalize q'.1.make k (q'.2.1.getD 0 0) (q'.2.1.getD (many-1) 0)=z' at a2 c2 p1 p2 p3 p4 p5 p6 ct ⊢;by_cases z7:z.2.2=7
   ·rw[C8 (show z.2.2≠0 by omega)];refine⟨λh=>absurd z7 h,λ_=>?_⟩;split
    ·exact c2 z7
    ·rename_i h0;rcases c2 z7 with h | h
     ·exact absurd h h0
     ·exact .inr (z0q h (ct (Classical.not_not.1 h0)))
   ·obtain⟨hz,o2,LB,t2,n2⟩:=a2 z7;by_cases z0:z.2.2=0
    ·rw[A7 (λg=>g z0),A7 (λg=>g (hz.trans z0))];have P2:=P.mono (M.tr OC LB) t2;obtain⟨h1,h2⟩:=A6p (lo:=lo) (hi:=hi) (x:={ x with s:=z.1 }) (x':={ x' with s:=z'.1 }) m1 p1 P2 (M.nm (M.tr OC LB) N) n2;refine⟨λh=>?_,h2⟩;obtain⟨w1,o3,le3,P3⟩:=h1 h;exact⟨w1,o3,M.tr (M.tr OC LB) le3,P3,n1.mono λ_ _=>M.nm (M.tr LB le3),M.nm le3 n2⟩
    ·have nz:z.2.2≠0:=z0;have nz':z'.2.2≠0:=by rw[hz];exact z0
     simp only[C8 nz,C8 nz'];exact⟨λ_=>⟨hz,o2,M.tr OC LB,P.mono (M.tr OC LB) t2,.nil,M.leaf _ 0 (by omega)⟩,λh=>absurd h z7⟩
  ·rw[C8 e0,C8 (by rw[he];exact e0)];exact⟨λ_=>⟨he,o1,OC,P.mono OC t1,.nil,M.leaf _ 0 (by omega)⟩,λh=>absurd h e7⟩
mutual
theorem B1U{A8 lev':Nat}(L:M.lv A8 lev')(l1:A8<2 ^ 31)(l2:lev'<2 ^ 31):∀(p:F5){o:M.Wd}{nd nd':Nat}{x x':PS},x.s.Ok->x'.s.Ok->nd<x.s.l.length->nd'<x'.s.l.length->p.pat=true->PR M o x x'->M.N o nd nd'->PO M o (BG A8 p nd x) (BG lev' p nd' x')
 |.mk k lo hi name n s ks,o,nd,nd',x,x',ok,ok',hn,hn',hp,P,N=>by
   have pX:=hp;rw[F5.kP,zbq,zBq]at pX;obtain⟨h1,h2⟩:=pX;obtain⟨KF,Vr⟩:=F5.vH h1;simp only[F5.JV,F5.X0]at KF Vr h2;rw[BG,BG];by_cases k1:k=1
   ·rw[C8 k1,C8 k1];exact⟨λ_=>⟨rfl,o,M.rf o,P⟩,λh=>by simp at h⟩
   rw[A7 k1,A7 k1];by_cases k2:k=2
   ·rw[C8 k2,C8 k2];exact⟨λ_=>⟨rfl,o,M.rf o,P.t,by simp only;rw[P.names],P.nodes.app (.one N),P.bad⟩,λh=>by simp at h⟩
   rw[A7 k2,A7 k2];by_cases k7:k=7
   ·rw[C8 k7,C8 k7];obtain⟨a1,a2,a3,a4⟩:=FK ok l1 (lo:=lo) (hi:=hi) (n:=nd) (k:=7) (many:=2) (.inl ⟨rfl,rfl⟩) hn;obtain⟨b1,b2,b3,b4⟩:=FK ok' l2 (lo:=lo) (hi:=hi) (n:=nd') (k:=7) (many:=2) (.inl ⟨rfl,rfl⟩) hn';obtain⟨c1,c2⟩:=A8C (lo:=lo) (hi:=hi) L l1 l2 ok ok' (k:=7) (many:=2) (.inl ⟨rfl,rfl⟩) hn hn' P N;generalize x.made A8 lo hi nd 7 2=q at a1 a2 a3 a4 c1 c2 ⊢;generalize x'.made lev' lo hi nd' 7 2=q' at b1 b2 b3 b4 c1 c2 ⊢;have G':q'.2.2.2=0->QW q'.1 (DY lev' ks q'.2.1 q'.1).1:=λh=>LF l2 ks q'.2.1 q'.1 b1.ok (by rw[b4 h,KF (.inl k7)];exact z1q _) b2 h2;by_cases e7:q.2.2.2=7
    ·rw[C8 (show q.2.2.2≠0 by omega)];refine⟨λh=>absurd e7 h,λ_=>?_⟩;split
     ·exact c2 e7
     ·rename_i h0;rcases c2 e7 with h | h
      ·exact absurd h h0
      ·exact .inr (z0q h (G' (Classical.not_not.1 h0)).ext.cnt)
    ·obtain⟨he,o1,OC,P1,n1,n2⟩:=c1 e7;by_cases e0:q.2.2.2=0
     ·have IE:=he.trans e0;rw[A7 (λg=>g e0),A7 (λg=>g IE)];obtain⟨y1,y2⟩:=A6q L l1 l2 ks a1.ok b1.ok (by rw[a4 e0,KF (.inl k7)];exact z1q _) (by rw[b4 IE,KF (.inl k7)];exact z1q _) a2 b2 h2 P1 n1;refine⟨λh=>?_,y2⟩;obtain⟨z1,o2,LB,P2⟩:=y1 h;exact⟨z1,o2,M.tr OC LB,P2⟩
     ·rw[C8 e0,C8 (by rw[he];exact e0)];exact⟨λ_=>⟨he,o1,OC,P1⟩,λh=>absurd h e7⟩
   rw[A7 k7,A7 k7];by_cases k89:k=8\/k=9
   ·rw[C8 k89,C8 k89];obtain⟨a1,a2,a3,a4⟩:=FK ok l1 (lo:=lo) (hi:=hi) (n:=nd) (k:=8) (many:=1) (.inr ⟨rfl,rfl⟩) hn;obtain⟨b1,b2,b3,b4⟩:=FK ok' l2 (lo:=lo) (hi:=hi) (n:=nd') (k:=8) (many:=1) (.inr ⟨rfl,rfl⟩) hn';obtain⟨c1,c2⟩:=A8C (lo:=lo) (hi:=hi) L l1 l2 ok ok' (k:=8) (many:=1) (.inr ⟨rfl,rfl⟩) hn hn' P N;generalize x.made A8 lo hi nd 8 1=q at a1 a2 a3 a4 c1 c2 ⊢;generalize x'.made lev' lo hi nd' 8 1=q' at b1 b2 b3 b4 c1 c2 ⊢;by_cases k8:k=8
    ·rw[C8 (.inr k8),C8 (.inr k8)];refine⟨λh=>?_,c2⟩;obtain⟨he,o1,OC,P1,n1,n2⟩:=c1 h;exact⟨he,o1,OC,P1⟩
    have k9:k=9:=by omega
    have Yt:∀{q:PS×List Nat×Nat×Nat},(∀y∈q.2.1,y<q.1.s.l.length)->q.2.2.1<q.1.s.l.length->∀y∈q.2.1++[q.2.2.1],y<q.1.s.l.length:=by
     intro q h1 h2 y hy;rcases z8q.1 hy with hy | hy
     ·exact h1 y hy
     ·rw[z5q.1 hy];exact h2
    have G':q'.2.2.2=0->QW q'.1 (DY lev' ks (q'.2.1++[q'.2.2.1]) q'.1).1:=λh=>LF l2 ks _ q'.1 b1.ok (by rw[zoq,b4 h,KF (.inr k9)];exact z1q _) (Yt b2 b3) h2;by_cases e7:q.2.2.2=7
    ·rw[C8 (.inl (show q.2.2.2≠0 by omega))];refine⟨λh=>absurd e7 h,λ_=>?_⟩;by_cases h0:q'.2.2.2=0
     ·rw[A7 (by rintro(h | h);exact h h0;exact k8 h)];rcases c2 e7 with h | h
      ·exact absurd h0 h
      ·exact .inr (z0q h (G' h0).ext.cnt)
     ·rw[C8 (.inl h0)];exact .inl h0
    ·obtain⟨he,o1,OC,P1,n1,n2⟩:=c1 e7;by_cases e0:q.2.2.2=0
     ·have IE:=he.trans e0;rw[A7 (by rintro(h | h);exact h e0;exact k8 h),A7 (by rintro(h | h);exact h IE;exact k8 h)];obtain⟨y1,y2⟩:=A6q L l1 l2 ks a1.ok b1.ok (by rw[zoq,a4 e0,KF (.inr k9)];exact z1q _) (by rw[zoq,b4 IE,KF (.inr k9)];exact z1q _) (Yt a2 a3) (Yt b2 b3) h2 P1 (n1.app (.one n2));refine⟨λh=>?_,y2⟩;obtain⟨z1,o2,LB,P2⟩:=y1 h;exact⟨z1,o2,M.tr OC LB,P2⟩
     ·rw[C8 (.inl e0),C8 (.inl (by rw[he];exact e0))];exact⟨λ_=>⟨he,o1,OC,P1⟩,λh=>absurd h e7⟩
   rw[A7 k89,A7 k89];exact A6p ok ok' P N (M.leaf _ _ (by omega))
theorem A6q{A8 lev':Nat}(L:M.lv A8 lev')(l1:A8<2 ^ 31)(l2:lev'<2 ^ 31):∀(ps:List F5){o:M.Wd}{ns ns':List Nat}{x x':PS},x.s.Ok->x'.s.Ok->ps.length<=ns.length->ps.length<=ns'.length->(∀n∈ns,n<x.s.l.length)->(∀n∈ns',n<x'.s.l.length)->(∀p∈ps,p.pat=true)->PR M o x x'->L2 (M.N o) ns ns'->PO M o (DY A8 ps ns x) (DY lev' ps ns' x')
 |[],o,ns,ns',x,x',ok,ok',_,_,_,_,_,P,_=>by rw[DY,DY];exact⟨λ_=>⟨rfl,o,M.rf o,P⟩,λh=>by simp at h⟩
 |p::ps,o,[],_,x,x',ok,ok',h,_,_,_,_,P,_=>by simp at h
 |p::ps,o,_::_,[],x,x',ok,ok',_,h,_,_,_,P,_=>by simp at h
 |p::ps,o,n::ns,n'::ns',x,x',ok,ok',hl,Yo,hn,hn',hp,P,N=>by
   have N0:M.N o n n'/\L2 (M.N o) ns ns':=by cases N with | cons a b=>exact⟨a,b⟩
   have hn0:=hn n (z4q ..);have B6v:=hn' n' (z4q ..);have hp0:=hp p (z4q ..);have a:=NB l1 p n x ok hn0 hp0;have b:=NB l2 p n' x' ok' B6v hp0;obtain⟨c1,c2⟩:=B1U L l1 l2 p ok ok' hn0 B6v hp0 P N0.1;rw[kN,kN];generalize BG A8 p n x=q at a c1 c2 ⊢;generalize BG lev' p n' x'=q' at b c1 c2 ⊢;have lt1:∀m∈ns,m<q.1.s.l.length:=λm hm=>z0q (hn m (z2q _ hm)) a.ext.le;have B6L:∀m∈ns',m<q'.1.s.l.length:=λm hm=>z0q (hn' m (z2q _ hm)) b.ext.le;have Yq:∀r∈ps,r.pat=true:=λr hr=>hp r (z2q _ hr);by_cases e7:q.2=7
   ·rw[C8 (show q.2≠0 by omega)];refine⟨λh=>absurd e7 h,λ_=>?_⟩;split
    ·exact c2 e7
    ·rename_i h0;rcases c2 e7 with h | h
     ·exact absurd h h0
     ·exact .inr (z0q h (LF l2 ps ns' _ b.ok (by simpa using Yo) B6L Yq).ext.cnt)
   ·obtain⟨he,o1,OC,P1⟩:=c1 e7;by_cases e0:q.2=0
    ·rw[A7 (λg=>g e0),A7 (λg=>g (he.trans e0))];obtain⟨y1,y2⟩:=A6q L l1 l2 ps a.ok b.ok (by simpa using hl) (by simpa using Yo) lt1 B6L Yq P1 (N0.2.mono λ_ _=>M.nm OC);refine⟨λh=>?_,y2⟩;obtain⟨z1,o2,LB,P2⟩:=y1 h;exact⟨z1,o2,M.tr OC LB,P2⟩
    ·rw[C8 e0,C8 (by rw[he];exact e0)];exact⟨λ_=>⟨he,o1,OC,P1⟩,λh=>absurd h e7⟩
end
end
end Go.Su

/-
 TWO RUNS SIDE BY SIDE: expressions.
-/
namespace Go.Su
def RSi(M:Q_)(R:Rec)(e:Ex):Prop:=∀(A8 lev':Nat)(l l':List EN)(o:M.Wd)(w w':W),M.lv A8 lev'->A8+e.size<2 ^ 30->lev'+e.size<2 ^ 30->SR M o w w'->w.err=0->ER M o w w' l l'->
 ((R e A8 l w).1.err≠7->∃o1,M.le o o1/\M.T o1 (R e A8 l w).1.s (R e lev' l' w').1.s/\(R e lev' l' w').1.err=(R e A8 l w).1.err/\(R e lev' l' w').1.bad=(R e A8 l w).1.bad/\M.N o1 (R e A8 l w).2.1 (R e lev' l' w').2.1/\DR M o1 (R e A8 l w).2.2 (R e lev' l' w').2.2) /\
 ((R e A8 l w).1.err=7->(R e lev' l' w').1.err≠0\/M.R9<(R e lev' l' w').1.s.cnt)
structure KR(M:Q_)(R:Rec)(A8 lev':Nat)(k:Ex):Prop where
 good:Cn R k
 rel:RSi M R k
 lv:A8+1+k.size<2 ^ 30
 lv':lev'+1+k.size<2 ^ 30
variable {e:Ex}
theorem kG{R:Rec}{w:W}{A8:Nat}{l:List EN}(h:w.err≠0):J4 R w e A8 l=(w,0):=by unfold J4;rw[C8 h]
section
variable {M:Q_}{R:Rec}{o:M.Wd}{w w':W}{A8 lev':Nat}{l l':List EN}{k:Ex}
theorem B1S(good:Cn R k)(rel:RSi M R k)(L:M.lv A8 lev')(v:A8+k.size<2 ^ 30)(v':lev'+k.size<2 ^ 30)(H:SR M o w w')(hE:ER M o w w' l l'):IV M o w w' (J4 R w k A8 l) (J4 R w' k lev' l'):=by
 have G:=U5 (A8:=A8) (l:=l) good v H.i hE.1;have G':=U5 (A8:=lev') (l:=l') good v' H.i' hE.2.1;by_cases h7:w.err=7
 ·exact aH H h7 G G' (by rw[kG (by omega)];exact h7) λh=>by rw[kG h];exact h
 ·have A:Al M o w w':=by
   rcases H.r with⟨-,A⟩ | ⟨h,-⟩
   ·exact A
   ·exact absurd h h7
  by_cases e0:w.err=0
  ·obtain⟨h1,h2⟩:=rel A8 lev' l l' o w w' L v v' H e0 hE;have IE:w'.err=0:=A.e.trans e0;unfold J4 at G G' ⊢;rw[A7 (show ¬w.err≠0 from λg=>g e0)]at G ⊢;rw[A7 (show ¬w'.err≠0 from λg=>g IE)]at G' ⊢;by_cases e7:(R k A8 l w).1.err=7
   ·exact⟨o,⟨M.rf o,G.1,G'.1,λh=>absurd h h7,⟨G.1.i,G'.1.i,.inr ⟨e7,h2 e7⟩⟩⟩,G.2,G'.2,λh=>absurd e7 h⟩
   ·obtain⟨o1,le,t,he,hb,n,d⟩:=h1 e7;exact⟨o1,⟨le,G.1,G'.1,λh=>absurd h h7,⟨G.1.i,G'.1.i,.inl ⟨e7,t,he,hb,A.ty.mono λ_ _=>M.nm le,A.vs.mono λ_ _=>M.nm le,Fq.app (A.ks.mono le) (by rw[Fq,Fq];exact⟨d,trivial⟩)⟩⟩⟩,G.2,G'.2,λ_=>n⟩
  ·rw[kG e0,kG (by rw[A.e];exact e0)];exact⟨o,Stp.refl H,NR.leaf H (j:=0) (by omega)⟩
variable (L:M.lv A8 lev')(H:SR M o w w')(hE:ER M o w w' l l')
include L H hE
theorem KR.run(K:KR M R A8 lev' k):IV M o w w' (J4 R w k A8 l) (J4 R w' k lev' l'):=B1S K.good K.rel L (by have:=K.lv;omega) (by have:=K.lv';omega) H hE
theorem KR.A6A(K:KR M R A8 lev' k):IV M o w w' (J4 R w k (A8+1) l) (J4 R w' k (lev'+1) l'):=B1S K.good K.rel (M.lvs L) K.lv K.lv' H hE
theorem B65(K0:KR M R A8 lev' (e.kd 0))(K1:KR M R A8 lev' (e.kd 1)):IV M o w w' (Ox R w e A8 l) (Ox R w' e lev' l'):=by
 have lb:A8<2 ^ 31:=by have:=K0.lv;omega
 have lb':lev'<2 ^ 31:=by have:=K0.lv';omega
 obtain⟨o1,a1,a2⟩:=K0.run L H hE;unfold Ox;simp only;generalize J4 R w (e.kd 0) A8 l=a at a1 a2 ⊢;generalize J4 R w' (e.kd 0) lev' l'=a' at a1 a2 ⊢;obtain⟨o2,b1,b2⟩:=K1.run L a1.s (hE.mono a1);generalize J4 R a.1 (e.kd 1) A8 l=b at b1 b2 ⊢;generalize J4 R a'.1 (e.kd 1) lev' l'=b' at b1 b2 ⊢;obtain⟨o3,v1,v2⟩:=Qu b1.s L lb lb';generalize b.1.fresh A8=v at v1 v2 ⊢;generalize b'.1.fresh lev'=v' at v1 v2 ⊢;have t1:=v1.one v2;obtain⟨o4,g1⟩:=GR t1.s (e.kd 0) ((a2.mono b1).mono t1) (a:=a.2) (a':=a'.2) (b:=v.2) (b':=v'.2) ⟨v2.1,v2.2.1,v2.2.2⟩;have v3:NR M o3 (v.1.Y2 [v.2]) (v'.1.Y2 [v'.2]) v.2 v'.2:=⟨v2.1,v2.2.1,v2.2.2⟩;have b3:=(b2.mono t1).mono g1;have v4:=v3.mono g1;generalize (v.1.Y2 [v.2]).agree a.2 v.2 (e.kd 0)=w1 at g1 b3 v4 ⊢;generalize (v'.1.Y2 [v'.2]).agree a'.2 v'.2 (e.kd 0)=w1' at g1 b3 v4 ⊢;obtain⟨o5,n1,n2⟩:=kS g1.s (k:=8) (b:=0) (b':=0) (.inr (.inl rfl)) v4 (λh=>absurd rfl h);generalize w1.made 8 v.2 0=n at n1 n2 ⊢;generalize w1'.made 8 v'.2 0=n' at n1 n2 ⊢;obtain⟨o6,g2⟩:=GR n1.s (e.kd 1) (b3.mono n1) n2;exact⟨o6,((((a1.trans b1).trans t1).trans g1).trans n1).trans g2,n2.mono g2⟩
omit hE in
theorem B62{f a f' a':Nat}(lb:A8<2 ^ 31)(lb':lev'<2 ^ 31)(fn:NR M o w w' f f')(an:NR M o w w' a a'):IV M o w w' (WE w f a e A8) (WE w' f' a' e lev'):=by
 have G:=dI (e:=e) lb H.i fn.1 an.1;have G':=dI (e:=e) lb' H.i' fn.2.1 an.2.1;have ee:∀(w:W)(f a A8:Nat),w.err≠0->WE w f a e A8=(w,0):=λw f a A8 h=>by unfold WE;rw[C8 h]
 by_cases h7:w.err=7
 ·exact aH H h7 G G' (by rw[ee _ _ _ _ (by omega)];exact h7) λh=>by rw[ee _ _ _ _ h];exact h
 ·have A:Al M o w w':=by
   rcases H.r with⟨-,A⟩ | ⟨h,-⟩
   ·exact A
   ·exact absurd h h7
  by_cases e0:w.err=0
  ·have nf:=fn.2.2 h7;have hk:=M.E8 H.i.ok H.i'.ok A.t nf;have Ll:=M.D6 H.i.ok H.i'.ok A.t nf;have c0:¬w.err≠0:=λg=>g e0;have c0':¬w'.err≠0:=λg=>g (A.e.trans e0);unfold WE;rw[A7 c0,A7 c0',hk];by_cases c5:w.s.F9 (w.s.root f)=5
   ·rw[C8 c5,C8 c5];have n4:=NR.leaf H (j:=4) (by omega);obtain⟨o1,g⟩:=GR H (e.kd 1) an n4;exact⟨o1,g,n4.mono g⟩
   rw[A7 c5,A7 c5];by_cases c6:w.s.F9 (w.s.root f)=6
   ·rw[C8 c6,C8 c6];simp only;obtain⟨o1,v1,v2⟩:=Qu H L lb lb';generalize w.fresh A8=v at v1 v2 ⊢;generalize w'.fresh lev'=v' at v1 v2 ⊢;obtain⟨o2,u1,u2⟩:=Qu v1.s L lb lb';generalize v.1.fresh A8=u at u1 u2 ⊢;generalize v'.1.fresh lev'=u' at u1 u2 ⊢;obtain⟨o3,m1,m2⟩:=kS u1.s (k:=9) (.inr (.inr rfl)) (v2.mono u1) (λ_=>u2);generalize u.1.made 9 v.2 u.2=m at m1 m2 ⊢;generalize u'.1.made 9 v'.2 u'.2=m' at m1 m2 ⊢;obtain⟨o4,g1⟩:=GR m1.s (e.kd 0) (((fn.mono v1).mono u1).mono m1) m2;obtain⟨o5,g2⟩:=GR g1.s (e.kd 1) ((((an.mono v1).mono u1).mono m1).mono g1) (((v2.mono u1).mono m1).mono g1);exact⟨o5,(((v1.trans u1).trans m1).trans g1).trans g2,((u2.mono m1).mono g1).mono g2⟩
   rw[A7 c6,A7 c6];by_cases c9:w.s.F9 (w.s.root f)=9
   ·rw[C8 c9,C8 c9];have kk:∀i,NR M o w w' ((w.s.I5 (w.s.root f)).getD i 0) ((w'.s.I5 (w'.s.root f')).getD i 0):=λi=>by have n:=Ll.getD (M.leaf o 0 (by omega)) i;have:=M.lt H.i.ok H.i'.ok A.t n;exact⟨this.1,this.2,λ_=>n⟩
    obtain⟨o1,g⟩:=GR H (e.kd 1) an (kk 0);exact⟨o1,g,(kk 1).mono g⟩
   rw[A7 c9,A7 c9];have k:(w.fails 4 ⟨(e.kd 0).lo,(e.kd 0).hi,4,w.s.F9 (w.s.root f),9,Z5⟩).err≠7:=by rw[Ef _ _ _ e0];omega
   have g:=(Good.refl H.i).fails 4 ⟨(e.kd 0).lo,(e.kd 0).hi,4,w.s.F9 (w.s.root f),9,Z5⟩;have g':=(Good.refl H.i').fails 4 ⟨(e.kd 0).lo,(e.kd 0).hi,4,w.s.F9 (w.s.root f),9,Z5⟩;have s:SR M o (w.fails 4 ⟨(e.kd 0).lo,(e.kd 0).hi,4,w.s.F9 (w.s.root f),9,Z5⟩) (w'.fails 4 ⟨(e.kd 0).lo,(e.kd 0).hi,4,w.s.F9 (w.s.root f),9,Z5⟩):=⟨g.i,g'.i,.inl ⟨k,A.fails _ _⟩⟩;exact⟨o,⟨M.rf o,g,g',λh=>absurd h h7,s⟩,NR.leaf s (j:=0) (by omega)⟩
  ·rw[ee _ _ _ _ e0,ee _ _ _ _ (by rw[A.e];exact e0)];exact⟨o,Stp.refl H,NR.leaf H (j:=0) (by omega)⟩
theorem B74(K0:KR M R A8 lev' (e.kd 0))(K1:KR M R A8 lev' (e.kd 1)):IV M o w w' (UN R w e A8 l) (UN R w' e lev' l'):=by
 have lb:A8<2 ^ 31:=by have:=K0.lv;omega
 have lb':lev'<2 ^ 31:=by have:=K0.lv';omega
 obtain⟨o1,a1,a2⟩:=K0.run L H hE;unfold UN;simp only;generalize J4 R w (e.kd 0) A8 l=a at a1 a2 ⊢;generalize J4 R w' (e.kd 0) lev' l'=a' at a1 a2 ⊢;obtain⟨o2,b1,b2⟩:=K1.run L a1.s (hE.mono a1);generalize J4 R a.1 (e.kd 1) A8 l=b at b1 b2 ⊢;generalize J4 R a'.1 (e.kd 1) lev' l'=b' at b1 b2 ⊢;exact(a1.trans b1).out (B62 L b1.s lb lb' (a2.mono b1) b2)
noncomputable def fG(R:Rec)(w:W)(n:Nat)(k:Ex)(A8:Nat)(l:List EN)(s:ByteArray):W×Nat :=if w.err≠0 then J4 R w k A8 (l++[⟨s,n,[]⟩])else J4 R ((w.above n A8).1.Si (w.above n A8).2) k A8 (l++[⟨s,n,(w.above n A8).2⟩])
variable {s:ByteArray}
omit L H hE in
theorem A3q{n:Nat}(good:Cn R k)(v:A8+k.size<2 ^ 30)(h:l6 w)(hE:Z6 w.s.l.length l)(hn:n<w.s.l.length):NE w (fG R w n k A8 l s):=by
 unfold fG;split
 ·exact U5 good v h (hE.app (Z6.one hn))
 ·obtain⟨c1,c2⟩:=Ba h (n:=n) (A8:=A8) hn;generalize w.above n A8=c at c1 c2 ⊢;have g:=Ho c1 c2;exact g.n (U5 good v g.i ((hE.mono g.ext.le).app λx hx=>by rw[z5q.1 hx];exact⟨g.lt hn,c2.1⟩))
theorem B1V{n n':Nat}(K:KR M R A8 lev' k)(N:NR M o w w' n n'):IV M o w w' (fG R w n k A8 l s) (fG R w' n' k lev' l' s):=by
 have v:=K.lv;have v':=K.lv';have G:=A3q (s:=s) K.good (show A8+k.size<2 ^ 30 by omega) H.i hE.1 N.1;have G':=A3q (s:=s) K.good (show lev'+k.size<2 ^ 30 by omega) H.i' hE.2.1 N.2.1;have ee:∀(w:W)(n A8:Nat)(l:List EN),w.err≠0->fG R w n k A8 l s=(w,0):=λw n A8 l h=>by unfold fG;rw[C8 h,kG h]
 by_cases h7:w.err=7
 ·exact aH H h7 G G' (by rw[ee _ _ _ _ (by omega)];exact h7) λh=>by rw[ee _ _ _ _ h];exact h
 ·have A:Al M o w w':=by
   rcases H.r with⟨-,A⟩ | ⟨h,-⟩
   ·exact A
   ·exact absurd h h7
  by_cases e0:w.err=0
  ·unfold fG;rw[A7 (show ¬w.err≠0 from λg=>g e0),A7 (show ¬w'.err≠0 from λg=>g (A.e.trans e0))];obtain⟨s1,hv⟩:=B5h H N L;obtain⟨-,c2⟩:=Ba H.i (n:=n) (A8:=A8) N.1;obtain⟨-,c2'⟩:=Ba H.i' (n:=n') (A8:=lev') N.2.1;have hv:=hv h7;generalize w.above n A8=c at s1 hv c2 ⊢;generalize w'.above n' lev'=c' at s1 hv c2' ⊢;have s2:=s1.vars c2 c2' λ_=>hv;exact s2.out (K.run L s2.s ((hE.mono s2).app (ER.vs (N.mono s2) c2.1 c2'.1 λ_=>hv)))
  ·rw[ee _ _ _ _ e0,ee _ _ _ _ (by rw[A.e];exact e0)];exact⟨o,Stp.refl H,NR.leaf H (j:=0) (by omega)⟩
theorem B75(K0:KR M R A8 lev' (e.kd 0))(K1:KR M R A8 lev' (e.kd 1))(ha:e.a.E8≠0->e.a.rc):IV M o w w' (VD R w e A8 l) (VD R w' e lev' l'):=by
 unfold VD;split
 ·rename_i k;obtain⟨o1,a1,a2⟩:=K0.run L H hE;simp only;generalize J4 R w (e.kd 0) A8 l=a at a1 a2 ⊢;generalize J4 R w' (e.kd 0) lev' l'=a' at a1 a2 ⊢;obtain⟨o2,n1,n2⟩:=B0a a1.s (ha k);generalize a.1.put e.a=n at n1 n2 ⊢;generalize a'.1.put e.a=n' at n1 n2 ⊢;obtain⟨o3,g⟩:=GR n1.s (e.kd 0) (a2.mono n1) n2;have ag:=(a1.trans n1).trans g;exact ag.out (K1.run L g.s ((hE.mono ag).app (ER.one (n2.mono g))))
 split
 ·obtain⟨o1,a1,a2⟩:=K0.A6A L H hE;have e1:∀(w:W)(A8:Nat)(l:List EN),(let a:=J4 R w (e.kd 0) (A8+1) l
   if a.1.err≠0 then J4 R a.1 (e.kd 1) A8 (l++[⟨e.name,a.2,[]⟩])
   else J4 R ((a.1.above a.2 A8).1.Si (a.1.above a.2 A8).2) (e.kd 1) A8 (l++[⟨e.name,a.2,(a.1.above a.2 A8).2⟩]))=fG R (J4 R w (e.kd 0) (A8+1) l).1 (J4 R w (e.kd 0) (A8+1) l).2 (e.kd 1) A8 l e.name:=λ_ _ _=>rfl
  rw[e1,e1];exact a1.out (B1V L a1.s (hE.mono a1) K1 a2)
 ·obtain⟨o1,a1,a2⟩:=K0.run L H hE;simp only;exact a1.out (K1.run L a1.s ((hE.mono a1).app (ER.one a2)))
theorem B76(K0:KR M R A8 lev' (e.kd 0))(K1:KR M R A8 lev' (e.kd 1))(ha:e.a.E8≠0->e.a.rc)(hb:e.b.E8≠0->e.b.rc):IV M o w w' (VM R w e A8 l) (VM R w' e lev' l'):=by
 have lb:A8+1<2 ^ 31:=by have:=K0.lv;omega
 have lb':lev'+1<2 ^ 31:=by have:=K0.lv';omega
 unfold VM;simp only;obtain⟨o1,p1,p2⟩:=A11 H ha (M.lvs L) lb lb';generalize w.Ae e.a (A8+1)=p at p1 p2 ⊢;generalize w'.Ae e.a (lev'+1)=p' at p1 p2 ⊢;obtain⟨o2,r1,r2⟩:=A11 p1.s hb (M.lvs L) lb lb';generalize p.1.Ae e.b (A8+1)=r at r1 r2 ⊢;generalize p'.1.Ae e.b (lev'+1)=r' at r1 r2 ⊢;obtain⟨o3,f1,f2⟩:=kS r1.s (k:=9) (.inr (.inr rfl)) (p2.mono r1) (λ_=>r2);generalize r.1.made 9 p.2 r.2=f at f1 f2 ⊢;generalize r'.1.made 9 p'.2 r'.2=f' at f1 f2 ⊢;have pf:=(p1.trans r1).trans f1;have E2:ER M o3 f.1 f'.1 [⟨e.name,f.2,[]⟩,⟨e.arg,p.2,[]⟩] [⟨e.name,f'.2,[]⟩,⟨e.arg,p'.2,[]⟩]:=(ER.one (s:=e.name) f2).app (ER.one (s:=e.arg) ((p2.mono r1).mono f1));obtain⟨o4,b1,b2⟩:=K0.A6A (l:=l++[⟨e.name,f.2,[]⟩,⟨e.arg,p.2,[]⟩]) (l':=l'++[⟨e.name,f'.2,[]⟩,⟨e.arg,p'.2,[]⟩]) L f1.s ((hE.mono pf).app E2);generalize J4 R f.1 (e.kd 0) (A8+1) (l++[⟨e.name,f.2,[]⟩,⟨e.arg,p.2,[]⟩])=b at b1 b2 ⊢;generalize J4 R f'.1 (e.kd 0) (lev'+1) (l'++[⟨e.name,f'.2,[]⟩,⟨e.arg,p'.2,[]⟩])=b' at b1 b2 ⊢;obtain⟨o5,g⟩:=GR b1.s (e.kd 0) b2 ((r2.mono f1).mono b1);have pg:=(pf.trans b1).trans g;have T:=B1V (s:=e.name) L g.s (hE.mono pg) K1 ((f2.mono b1).mono g);exact pg.out T
theorem B64(K0:KR M R A8 lev' (e.kd 0))(K1:KR M R A8 lev' (e.kd 1))(K2:KR M R A8 lev' (e.kd 2)):IV M o w w' (Ow R w e A8 l) (Ow R w' e lev' l'):=by
 have lb:A8<2 ^ 31:=by have:=K0.lv;omega
 have lb':lev'<2 ^ 31:=by have:=K0.lv';omega
 unfold Ow;simp only;obtain⟨o1,c1,c2⟩:=K0.run L H hE;generalize J4 R w (e.kd 0) A8 l=c at c1 c2 ⊢;generalize J4 R w' (e.kd 0) lev' l'=c' at c1 c2 ⊢;obtain⟨o2,g0⟩:=GR c1.s (e.kd 0) c2 (NR.leaf c1.s (j:=1) (by omega));have cg:=c1.trans g0;generalize c.1.agree c.2 1 (e.kd 0)=w0 at g0 cg ⊢;generalize c'.1.agree c'.2 1 (e.kd 0)=w0' at g0 cg ⊢;obtain⟨o3,a1,a2⟩:=K1.run L g0.s (hE.mono cg);generalize J4 R w0 (e.kd 1) A8 l=a at a1 a2 ⊢;generalize J4 R w0' (e.kd 1) lev' l'=a' at a1 a2 ⊢;have ca:=cg.trans a1;obtain⟨o4,b1,b2⟩:=K2.run L a1.s (hE.mono ca);generalize J4 R a.1 (e.kd 2) A8 l=b at b1 b2 ⊢;generalize J4 R a'.1 (e.kd 2) lev' l'=b' at b1 b2 ⊢;obtain⟨o5,v1,v2⟩:=Qu b1.s L lb lb';generalize b.1.fresh A8=v at v1 v2 ⊢;generalize b'.1.fresh lev'=v' at v1 v2 ⊢;have t1:=v1.one v2;have v3:NR M o5 (v.1.Y2 [v.2]) (v'.1.Y2 [v'.2]) v.2 v'.2:=⟨v2.1,v2.2.1,v2.2.2⟩;obtain⟨o6,g1⟩:=GR t1.s (e.kd 1) ((a2.mono b1).mono t1) v3;obtain⟨o7,g2⟩:=GR g1.s (e.kd 2) ((b2.mono t1).mono g1) (v3.mono g1);exact⟨o7,(((ca.trans b1).trans t1).trans g1).trans g2,(v3.mono g1).mono g2⟩
end
end Go.Su

/-
 TWO RUNS SIDE BY SIDE: matches, operations; whole runs.
-/
namespace Go.Su
set_option linter.defProp false
def A4E{R:Rec}{A8:Nat}{l:List EN}{v r:Nat}{w:W}(h:w.err≠0):∀rs:List (F5×Ex),(Gd R A8 l v r rs w).1=w
 |[]=>rfl
 | (p,k)::rs=>by rw[Gd,C8 h]
def B7x{M:Q_}{o:M.Wd}:∀(ss:List ByteArray){ns ns':List Nat},L2 (M.N o) ns ns'->L2 (λa b:EN=>a.name=b.name/\M.N o a.node b.node/\L2 (M.N o) a.vars b.vars) (List.zipWith (λs n=>(⟨s,n,[]⟩:EN)) ss ns) (List.zipWith (λs n=>(⟨s,n,[]⟩:EN)) ss ns')
 |[],_,_,_=>by simp only[List.zipWith_nil_left];exact .nil
 |s::ss,_,_,.nil=>by simp only[List.zipWith_nil_right];exact .nil
 |s::ss,_,_,.cons a h=>by simp only[List.zipWith_cons_cons];exact .cons ⟨rfl,a,.nil⟩ (B7x ss h)
section
variable {M:Q_}{R:Rec}
def A8Z{q:PS×Nat}{n:Nat}(h:∀m∈q.1.nodes,m<n):Z6 n (if q.2≠0 then[]else List.zipWith (λs n=>(⟨s,n,[]⟩:EN)) q.1.names q.1.nodes):=by
 split
 ·intro x hx;cases hx
 ·intro x hx;obtain⟨j,hj,rfl⟩:=zkq.1 hx;simp only[zwq]at hj;rw[zvq];exact⟨h _ (z9q (by omega)),by simp⟩
def B1R{A8 lev':Nat}(L:M.lv A8 lev')(lb:A8<2 ^ 31)(lb':lev'<2 ^ 31):∀(rs:List (F5×Ex)){l l':List EN}{v v' r r':Nat}{o:M.Wd}{w w':W},(∀a∈rs,KR M R A8 lev' a.2/\a.1.pat=true)->SR M o w w'->ER M o w w' l l'->NR M o w w' v v'->NR M o w w' r r'->IV M o w w' (Gd R A8 l v r rs w) (Gd R lev' l' v' r' rs w')
 |[],l,l',v,v',r,r',o,w,w',_,H,_,_,hr=>⟨o,Stp.refl H,hr⟩
 | (p,k)::rs,l,l',v,v',r,r',o,w,w',ha,H,hE,hv,hr=>by
   obtain⟨K,hp⟩:=ha _ (z4q ..);have G:=TE (R:=R) (l:=l) (r:=r) (v:=v) lb ((p,k)::rs) w (λa h=>⟨(ha a h).1.good,by have:=(ha a h).1.lv;omega,(ha a h).2⟩) H.i hE.1 hv.1 hr.1;have G':=TE (R:=R) (l:=l') (r:=r') (v:=v') lb' ((p,k)::rs) w' (λa h=>⟨(ha a h).1.good,by have:=(ha a h).1.lv';omega,(ha a h).2⟩) H.i' hE.2.1 hv.2.1 hr.2.1;by_cases h7:w.err=7
   ·exact aH H h7 G G' (by rw[A4E (by omega)];exact h7) λh=>by rw[A4E h];exact h
   ·have A:Al M o w w':=by
     rcases H.r with⟨-,A⟩ | ⟨h,-⟩
     ·exact A
     ·exact absurd h h7
    clear G G';rw[Gd,Gd];by_cases e0:w.err=0
    ·have IE:w'.err=0:=A.e.trans e0;rw[A7 (show ¬w.err≠0 from λg=>g e0),A7 (show ¬w'.err≠0 from λg=>g IE)];simp only;have P:=NB lb p v ⟨w.s,[],[],P9⟩ H.i.ok hv.1 hp;have P':=NB lb' p v' ⟨w'.s,[],[],P9⟩ H.i'.ok hv.2.1 hp;obtain⟨p1,p2⟩:=B1U L lb lb' p (o:=o) (x:=⟨w.s,[],[],P9⟩) (x':=⟨w'.s,[],[],P9⟩) H.i.ok H.i'.ok hv.1 hv.2.1 hp ⟨A.t,rfl,.nil,rfl⟩ (hv.2.2 h7);generalize BG A8 p v ⟨w.s,[],[],P9⟩=q at P p1 p2 ⊢;generalize BG lev' p v' ⟨w'.s,[],[],P9⟩=q' at P' p1 p2 ⊢;have g1:Good w (({ w with s:=q.1.s }:W).fails q.2 q.1.bad):=(H.i.s (w':={ w with s:=q.1.s }) P.ok P.ext rfl rfl rfl).fails q.2 q.1.bad;have g1':Good w' (({ w' with s:=q'.1.s }:W).fails q'.2 q'.1.bad):=(H.i'.s (w':={ w' with s:=q'.1.s }) P'.ok P'.ext rfl rfl rfl).fails q'.2 q'.1.bad;have hs:(({ w with s:=q.1.s }:W).fails q.2 q.1.bad).s=q.1.s:=W9 ..;have DL:(({ w' with s:=q'.1.s }:W).fails q'.2 q'.1.bad).s=q'.1.s:=W9 ..;have he:(({ w with s:=q.1.s }:W).fails q.2 q.1.bad).err=q.2:=Ef _ _ _ e0;have he':(({ w' with s:=q'.1.s }:W).fails q'.2 q'.1.bad).err=q'.2:=Ef _ _ _ IE;have step:∃o1,Stp M o w w' o1 (({ w with s:=q.1.s }:W).fails q.2 q.1.bad) (({ w' with s:=q'.1.s }:W).fails q'.2 q'.1.bad)/\(q.2≠7->q'.2=q.2/\PR M o1 q.1 q'.1):=by
      by_cases q7:q.2=7
      ·exact⟨o,⟨M.rf o,g1,g1',λh=>absurd h h7,⟨g1.i,g1'.i,.inr ⟨by rw[he];exact q7,by rw[he',DL];exact p2 q7⟩⟩⟩,λh=>absurd q7 h⟩
      ·obtain⟨eq,o1,le,PP⟩:=p1 q7;exact⟨o1,⟨le,g1,g1',λh=>absurd h h7,⟨g1.i,g1'.i,.inl ⟨by rw[he];exact q7,by rw[eq,PP.bad];exact(A.mono le PP.t).fails _ _⟩⟩⟩,λ_=>⟨eq,PP⟩⟩
     obtain⟨o1,s1,hq⟩:=step;have hE1:ER M o1 (({ w with s:=q.1.s }:W).fails q.2 q.1.bad) (({ w' with s:=q'.1.s }:W).fails q'.2 q'.1.bad) (l++if q.2≠0 then[]else List.zipWith (λs n=>(⟨s,n,[]⟩:EN)) q.1.names q.1.nodes) (l'++if q'.2≠0 then[]else List.zipWith (λs n=>(⟨s,n,[]⟩:EN)) q'.1.names q'.1.nodes):=by
      refine(hE.mono s1).app ⟨A8Z λm hm=>by rw[hs];exact P.nd (by simp) m hm,A8Z λm hm=>by rw[DL];exact P'.nd (by simp) m hm,λh=>?_⟩;rw[he]at h;obtain⟨eq,PP⟩:=hq h;rw[eq,PP.names];split
      ·exact .nil
      ·exact B7x _ PP.nodes
     generalize ({ w with s:=q.1.s }:W).fails q.2 q.1.bad=w1 at s1 hE1 ⊢;generalize ({ w' with s:=q'.1.s }:W).fails q'.2 q'.1.bad=w1' at s1 hE1 ⊢;obtain⟨o2,b1,b2⟩:=K.run L s1.s hE1;generalize J4 R w1 k A8 (l++if q.2≠0 then[]else List.zipWith (λs n=>(⟨s,n,[]⟩:EN)) q.1.names q.1.nodes)=b at b1 b2 ⊢;generalize J4 R w1' k lev' (l'++if q'.2≠0 then[]else List.zipWith (λs n=>(⟨s,n,[]⟩:EN)) q'.1.names q'.1.nodes)=b' at b1 b2 ⊢;have sb:=s1.trans b1;obtain⟨o3,g2⟩:=GR b1.s k b2 (hr.mono sb);have sg:=sb.trans g2;exact sg.out (B1R L lb lb' rs (λa h=>ha a (z2q _ h)) g2.s (hE.mono sg) (hv.mono sg) (hr.mono sg))
    ·rw[C8 (show w.err≠0 from e0),C8 (show w'.err≠0 by rw[A.e];exact e0)];exact⟨o,Stp.refl H,NR.leaf H (j:=0) (by omega)⟩
def B5i{o:M.Wd}{w w':W}{A8 lev':Nat}{l l':List EN}{e:Ex}(L:M.lv A8 lev')(lb:A8<2 ^ 31)(lb':lev'<2 ^ 31)(H:SR M o w w')(hE:ER M o w w' l l')(K0:KR M R A8 lev' (e.kd 0))(hk:∀k∈e.D6,KR M R A8 lev' k)(hp:∀p∈e.J8,p.pat=true):IV M o w w' (LD R w e A8 l) (LD R w' e lev' l'):=by unfold LD;simp only;obtain⟨o1,a1,a2⟩:=K0.run L H hE;generalize J4 R w (e.kd 0) A8 l=a at a1 a2 ⊢;generalize J4 R w' (e.kd 0) lev' l'=a' at a1 a2 ⊢;obtain⟨o2,v1,v2⟩:=Qu a1.s L lb lb';generalize a.1.fresh A8=v at v1 v2 ⊢;generalize a'.1.fresh lev'=v' at v1 v2 ⊢;obtain⟨o3,g⟩:=GR v1.s (e.kd 0) (a2.mono v1) v2;have v3:=v2.mono g;generalize v.1.agree a.2 v.2 (e.kd 0)=w0 at g v3 ⊢;generalize v'.1.agree a'.2 v'.2 (e.kd 0)=w0' at g v3 ⊢;obtain⟨o4,r1,r2⟩:=Qu g.s L lb lb';generalize w0.fresh A8=r at r1 r2 ⊢;generalize w0'.fresh lev'=r' at r1 r2 ⊢;have v4:=v3.mono r1;have t:=r1.types (l:=[v.2,r.2]) (l':=[v'.2,r'.2]) (by intro x hx;simp only[zdq,zmq,or_false]at hx;rcases hx with rfl | rfl;exact v4.1;exact r2.1) (by intro x hx;simp only[zdq,zmq,or_false]at hx;rcases hx with rfl | rfl;exact v4.2.1;exact r2.2.1) λh=>.cons (v4.2.2 h) (.one (r2.2.2 h));have gg:=((a1.trans v1).trans g).trans t;refine gg.out (B1R L lb lb' _ (λx hx=>?_) t.s (hE.mono gg) ⟨v4.1,v4.2.1,v4.2.2⟩ ⟨r2.1,r2.2.1,r2.2.2⟩);have:=zlq hx;exact⟨hk x.2 (zzq this.2),hp x.1 this.1⟩
def B4q{A8 lev':Nat}(L:M.lv A8 lev'){want:Nat}(hw:want<5):∀(ks:List Ex){l l':List EN}{o:M.Wd}{w w':W},(∀k∈ks,KR M R A8 lev' k)->SR M o w w'->ER M o w w' l l'->∃o1,Stp M o w w' o1 (LZ R A8 l want ks w) (LZ R lev' l' want ks w')
 |[],l,l',o,w,w',_,H,_=>⟨o,Stp.refl H⟩
 |k::ks,l,l',o,w,w',hk,H,hE=>by obtain⟨o1,a1,a2⟩:=(hk k (z4q ..)).run L H hE;rw[LZ,LZ];obtain⟨o2,g⟩:=GR a1.s k a2 (NR.leaf a1.s hw);have ag:=a1.trans g;obtain⟨o3,s⟩:=B4q L hw ks (λx hx=>hk x (z2q _ hx)) g.s (hE.mono ag);exact⟨o3,ag.trans s⟩
def B63{o:M.Wd}{w w':W}{A8 lev':Nat}{l l':List EN}{e:Ex}(hr:e.right=true)(hk:∀k∈e.D6,Cn R k/\RSi M R k)(L:M.lv A8 lev')(hl:A8+e.size<2 ^ 30)(Yo:lev'+e.size<2 ^ 30)(H:SR M o w w')(hE:ER M o w w' l l'):IV M o w w' (U0 R w e A8 l) (U0 R w' e lev' l'):=by
 obtain⟨k1,k2,k3⟩:=Ex.tY hr;have kk:∀k∈e.D6,KR M R A8 lev' k:=λk hm=>⟨(hk k hm).1,(hk k hm).2,by have:=Ex.FR hm;omega,by have:=Ex.FR hm;omega⟩;have kd:∀i,i<e.D6.length->KR M R A8 lev' (e.kd i):=λi hi=>kk _ (Ex.Cr hi);have na:=Ex.kK hr;have nb:=Ex.A0P hr;have lb:A8<2 ^ 31:=by omega
 have lb':lev'<2 ^ 31:=by omega
 unfold U0;by_cases g:e.E8=1
 ·rw[C8 g,C8 g];exact B66 H L lb lb' hE
 rw[A7 g,A7 g];by_cases g:e.E8=2\/e.E8=3\/e.E8=4\/e.E8=5
 ·rw[C8 g,C8 g];exact⟨o,Stp.refl H,NR.leaf H (j:=(e.E8-2).toNat) (by omega)⟩
 rw[A7 g,A7 g];by_cases g:e.E8=6
 ·rw[C8 g,C8 g];have n2:e.D6.length=2:=by simp[g,O5]at k3;omega
  obtain⟨o1,a1,a2⟩:=(kd 0 (by omega)).run L H hE;simp only;generalize J4 R w (e.kd 0) A8 l=a at a1 a2 ⊢;generalize J4 R w' (e.kd 0) lev' l'=a' at a1 a2 ⊢;obtain⟨o2,b1,b2⟩:=(kd 1 (by omega)).run L a1.s (hE.mono a1);generalize J4 R a.1 (e.kd 1) A8 l=b at b1 b2 ⊢;generalize J4 R a'.1 (e.kd 1) lev' l'=b' at b1 b2 ⊢;exact(a1.trans b1).out (kS b1.s (k:=7) (.inl rfl) (a2.mono b1) (λ_=>b2))
 rw[A7 g,A7 g];by_cases g:e.E8=7
 ·rw[C8 g,C8 g];obtain⟨o1,v1,v2⟩:=Qu H L lb lb';generalize w.fresh A8=v at v1 v2 ⊢;generalize w'.fresh lev'=v' at v1 v2 ⊢;have t1:=v1.one v2;exact t1.out (kS t1.s (k:=8) (.inr (.inl rfl)) ⟨v2.1,v2.2.1,v2.2.2⟩ (λh=>absurd rfl h))
 rw[A7 g,A7 g];by_cases g:e.E8=8
 ·rw[C8 g,C8 g];have n2:e.D6.length=2:=by simp[g,O5]at k3;omega
  exact B65 L H hE (kd 0 (by omega)) (kd 1 (by omega))
 rw[A7 g,A7 g];by_cases g:e.E8=9
 ·rw[C8 g,C8 g];have n1:e.D6.length=1:=by simp[g,O5]at k3;omega
  obtain⟨o1,p1,p2⟩:=A11 H na.1 L lb lb';simp only;generalize w.Ae e.a A8=p at p1 p2 ⊢;generalize w'.Ae e.a lev'=p' at p1 p2 ⊢;obtain⟨o2,b1,b2⟩:=(kd 0 (by omega)).run (l:=l++[⟨e.name,p.2,[]⟩]) (l':=l'++[⟨e.name,p'.2,[]⟩]) L p1.s ((hE.mono p1).app (ER.one p2));exact(p1.trans b1).out (kS b1.s (k:=9) (.inr (.inr rfl)) (p2.mono b1) (λ_=>b2))
 rw[A7 g,A7 g];by_cases g:e.E8=10
 ·rw[C8 g,C8 g];have n2:e.D6.length=2:=by simp[g,O5]at k3;omega
  exact B74 L H hE (kd 0 (by omega)) (kd 1 (by omega))
 rw[A7 g,A7 g];by_cases g:e.E8=11
 ·rw[C8 g,C8 g];have n2:e.D6.length=2:=by simp[g,O5]at k3;omega
  exact B75 L H hE (kd 0 (by omega)) (kd 1 (by omega)) na.1
 rw[A7 g,A7 g];by_cases g:e.E8=12
 ·rw[C8 g,C8 g];have n2:e.D6.length=2:=by simp[g,O5]at k3;omega
  exact B76 L H hE (kd 0 (by omega)) (kd 1 (by omega)) na.1 nb
 rw[A7 g,A7 g];by_cases g:e.E8=13
 ·rw[C8 g,C8 g];have n3:e.D6.length=3:=by simp[g,O5]at k3;omega
  exact B64 L H hE (kd 0 (by omega)) (kd 1 (by omega)) (kd 2 (by omega))
 rw[A7 g,A7 g];by_cases g:e.E8=14
 ·rw[C8 g,C8 g];have n1:0<e.D6.length:=by simp[g,O5]at k3;omega
  refine B5i L lb lb' H hE (kd 0 n1) kk (λp hp=>?_);have:=Ex.A4s hr hp;unfold F5.right at this;rw[zbq]at this;exact this.1
 rw[A7 g,A7 g];by_cases g:e.E8=15
 ·rw[C8 g,C8 g];have n1:e.D6.length=1:=by simp[g,O5]at k3;omega
  obtain⟨o1,a1,a2⟩:=(kd 0 (by omega)).run L H hE;simp only;generalize J4 R w (e.kd 0) A8 l=a at a1 a2 ⊢;generalize J4 R w' (e.kd 0) lev' l'=a' at a1 a2 ⊢;obtain⟨o2,n1,n2⟩:=B0a a1.s (na.2 g);generalize a.1.put e.a=n at n1 n2 ⊢;generalize a'.1.put e.a=n' at n1 n2 ⊢;obtain⟨o3,g⟩:=GR n1.s (e.kd 0) (a2.mono n1) n2;exact⟨o3,(a1.trans n1).trans g,n2.mono g⟩
 ·rw[A7 g,A7 g];obtain⟨o1,s⟩:=B4q (R:=R) L (want:=if e.op=7 then 2 else 0) (by split<;>omega) e.D6 kk H hE;exact⟨o1,s,NR.leaf s.s (j:=if e.op=5\/e.op=6\/e.op=7 then 1 else 0) (by split<;>omega)⟩
end
def A2E(M:Q_):∀(f:Nat)(e:Ex),e.right=true->RSi M (N9 f) e
 |0,e,hr=>λA8 lev' l l' o w w' L hl Yo H e0 hE=>by
   have A:Al M o w w':=by
    rcases H.r with⟨-,A⟩ | ⟨h,-⟩
    ·exact A
    ·omega
   refine⟨λh=>⟨o,M.rf o,A.t,A.e,A.b,M.leaf o 0 (by omega),?_⟩,λh=>?_⟩
   ·simp only[N9]
    rw[DR];exact⟨M.leaf o 0 (by omega),.nil,.nil,by rw[Fq];trivial⟩
   ·simp only[N9]at h;omega
 |f+1,e,hr=>λA8 lev' l l' o w w' L hl Yo H e0 hE=>by
   have A:Al M o w w':=by
    rcases H.r with⟨-,A⟩ | ⟨h,-⟩
    ·exact A
    ·omega
   have w0:∀{w:W},l6 w->l6 { w with types:=[],vars:=[],D6:=[] }:=λh=>⟨h.ok,by simp,⟨by simp,by simp⟩,trivial⟩;have H0:SR M o { w with types:=[],vars:=[],D6:=[] } { w' with types:=[],vars:=[],D6:=[] }:=⟨w0 H.i,w0 H.i',.inl ⟨by simp only;omega,A.t,A.e,A.b,.nil,.nil,by rw[Fq];trivial⟩⟩;obtain⟨o1,s,n⟩:=B63 (R:=N9 f) hr (λk hk=>⟨Ir f k (Ex.Hf hr hk),A2E M f k (Ex.Hf hr hk)⟩) L hl Yo H0 hE;rw[N9];simp only;generalize U0 (N9 f) { w with types:=[],vars:=[],D6:=[] } e A8 l=q at s n ⊢;generalize U0 (N9 f) { w' with types:=[],vars:=[],D6:=[] } e lev' l'=q' at s n ⊢;rcases s.s.r with⟨h7,B⟩ | ⟨h7,p⟩
   ·exact⟨λ_=>⟨o1,s.le,B.t,B.e,B.b,n.2.2 h7,by rw[DR];exact⟨n.2.2 h7,B.ty,B.vs,B.ks⟩⟩,λh=>absurd h h7⟩
   ·exact⟨λh=>absurd h7 h,λ_=>p⟩
end Go.Su

/-
 TWO LIMITS: the same store with another limit.
-/
namespace Go.Su
def E9.Q9(S:E9)(m:Nat):E9:={ S with mx:=m }
variable {S:E9}
theorem A0X{m n r:Nat}:X5 (S.Q9 m) n r↔X5 S n r:=by
 constructor
 ·intro h;induction h with
  |here a b=>exact .here (S:=S) a b
  |step a b _ ih=>exact .step (S:=S) a b ih
 ·intro h;induction h with
  |here a b=>exact .here (S:=S.Q9 m) a b
  |step a b _ ih=>exact .step (S:=S.Q9 m) a b ih
theorem oI{m n:Nat}{t:NT}:U8 (S.Q9 m) n t↔U8 S n t:=by
 constructor
 ·intro h;induction h with
  |mk a b c d ih=>exact .mk (S:=S) (A0X.1 a) b c ih
 ·intro h;induction h with
  |mk a b c d ih=>exact .mk (S:=S.Q9 m) (A0X.2 a) b c ih
section
variable (S:E9)(m:Nat)
theorem Zo(n:Nat):(S.Q9 m).L6 n=S.L6 n:=by have:(U8 (S.Q9 m) n)=U8 S n:=funext λt=>propext oI;unfold E9.L6;rw[this]
theorem IX(n:Nat):(S.Q9 m).root n=S.root n:=by unfold E9.root;rw[Zo]
theorem TZ(n:Nat):(S.Q9 m).roots n=S.roots n:=by unfold E9.roots;rw[Zo]
theorem Qn(n:Nat):(S.Q9 m).F9 n=S.F9 n:=rfl
theorem xP(n:Nat):(S.Q9 m).X8 n=S.X8 n:=rfl
theorem VB(n:Nat):(S.Q9 m).I5 n=S.I5 n:=rfl
theorem A7f(n:Nat):(S.Q9 m).vars n=S.vars n:=by unfold E9.vars;rw[TZ];rfl
theorem S_:(S.Q9 m).tick=S.tick.Q9 m:=rfl
theorem A2W(n A8:Nat):(S.Q9 m).lower n A8=(S.lower n A8).Q9 m:=by unfold E9.lower;rw[A7f];rfl
theorem B1w(r t:Nat):(S.Q9 m).BM r t=(S.BM r t).Q9 m:=rfl
theorem yR(v n:Nat):(S.Q9 m).link v n=((S.link v n).1.Q9 m,(S.link v n).2):=by
 unfold E9.link;rw[IX,IX,TZ,Qn,xP];split
 ·rfl
 ·split
  ·rfl
  ·rw[S_,B1w,A2W]
end
def lG(m1 m2:Nat){α : Type}(q q':E9×α×Nat):Prop:=(q.2.2≠7->q'=(q.1.Q9 m2,q.2))/\(q.2.2=7->q'.2.2≠0\/m1<q'.1.cnt)
section
variable {m1 m2:Nat}(hm:m1<=m2)
include hm
theorem A8U(h1:S.mx=m1)(ok:S.Ok)(A8:Nat):lG m1 m2 (S.var A8) ((S.Q9 m2).var A8):=by
 have cm:=ok.cm;unfold E9.var;have e:(S.Q9 m2).cnt=S.cnt:=rfl;have e2:(S.Q9 m2).mx=m2:=rfl;rw[e,e2];by_cases g:S.cnt=S.mx
 ·rw[C8 g];refine⟨λh=>absurd rfl h,λ_=>?_⟩;split
  ·exact .inl (by simp)
  ·exact .inr (by simp only[E9.add];omega)
 ·have g2:¬S.cnt=m2:=by omega
  rw[A7 g,A7 g2];exact⟨λ_=>rfl,λh=>by simp at h⟩
theorem A5U(h1:S.mx=m1)(ok:S.Ok)(k a b:Nat):lG m1 m2 (S.make k a b) ((S.Q9 m2).make k a b):=by
 have cm:=ok.cm;unfold E9.make;have e:(S.Q9 m2).cnt=S.cnt:=rfl;have e2:(S.Q9 m2).mx=m2:=rfl;rw[e,e2];by_cases g:S.cnt=S.mx
 ·rw[C8 g];refine⟨λh=>absurd rfl h,λ_=>?_⟩;split
  ·exact .inl (by simp)
  ·exact .inr (by simp only[E9.add];omega)
 ·have g2:¬S.cnt=m2:=by omega
  rw[A7 g,A7 g2];exact⟨λ_=>rfl,λh=>by simp at h⟩
theorem A2M{A8:Nat}(hl:A8<2 ^ 31)(HY:m2<=65536):∀(k:Nat){S:E9},S.mx=m1->S.Ok->lG m1 m2 (E9.fresh A8 k S) (E9.fresh A8 k (S.Q9 m2))
 |0,S,h1,ok=>⟨λ_=>rfl,λh=>by simp[E9.fresh]at h⟩
 |k+1,S,h1,ok=>by
   obtain⟨a,c⟩:=A8U hm h1 ok A8;obtain⟨k1,g1,-⟩:=Ms ok hl;have cm:=ok.cm;have ok':(S.Q9 m2).Ok:=⟨λn hn=>by obtain⟨t,ht⟩:=ok.wf n hn;exact⟨t,oI.2 ht⟩,ok.base,ok.lc,by simp only[E9.Q9];omega,HY,ok.ki⟩;obtain⟨k2,-⟩:=Ms ok' hl;obtain⟨-,-,-,k3,-⟩:=ET hl k _ k2;rw[E9.fresh,E9.fresh];by_cases e7:(S.var A8).2.2=7
   ·rw[A7 (by omega)];refine⟨λh=>absurd e7 h,λ_=>?_⟩;split
    ·rename_i g;rcases c e7 with h | h
     ·exact absurd g h
     ·exact .inr (z0q h k3)
    ·exact c e7
   ·rw[a e7];simp only
    by_cases e0:(S.var A8).2.2=0
    ·rw[C8 e0,C8 e0];obtain⟨x,y⟩:=A2M hl HY k (g1.mx.trans h1) k1;refine⟨λh=>?_,y⟩;rw[x h]
    ·rw[A7 e0,A7 e0];exact⟨λ_=>rfl,λh=>absurd h e7⟩
end
theorem E9.Ok.Q9(ok:S.Ok){m:Nat}(h:S.mx<=m)(hm:m<=65536):(S.Q9 m).Ok :=⟨λn hn=>by obtain⟨t,ht⟩:=ok.wf n hn;exact⟨t,oI.2 ht⟩,ok.base,ok.lc,by have:=ok.cm;simp only[E9.Q9];omega,hm,ok.ki⟩
theorem zm{m1 m2:Nat}(hm:m1<=m2)(HY:m2<=65536)(h1:S.mx=m1)(ok:S.Ok){v w:Nat}(hv:v<S.l.length)(hw:w<S.l.length)(rw_:S.root w=w)(xE:w≠4):lG m1 m2 (S.become v w) ((S.Q9 m2).become v w):=by
 have uD:=ok.Q9 (m:=m2) (by omega) HY;unfold E9.become;rw[Qn,TZ,yR,S_,yR,S_,xP,VB];have lk7:∀(T:E9)(v n:Nat),(T.link v n).2≠7:=by
  intro T v n;unfold E9.link;split
  ·simp
  ·split<;>simp
 split
 ·exact⟨λ_=>rfl,λh=>absurd h (lk7 _ _ _)⟩
 ·rename_i k6;split
  ·exact⟨λ_=>rfl,λh=>absurd h (lk7 _ _ _)⟩
  ·rename_i R6;have R6:4∈S.roots w:=Classical.not_not.1 R6;split
   ·exact⟨λ_=>rfl,λh=>by simp at h⟩
   ·have PN:=ok.tick.tick;have B8U:(S.tick.tick.Q9 m2).Ok:=uD.tick.tick;obtain⟨a,c⟩:=A2M hm (ok.A8 hv) HY (S.I5 w).length (S:=S.tick.tick) h1 PN;obtain⟨f1,f2,f3,f4,f5,f6⟩:=ET (ok.A8 hv) (S.I5 w).length _ PN;obtain⟨g1,g2,g3,g4,g5,g6⟩:=ET (ok.A8 hv) (S.I5 w).length _ B8U;simp only;generalize E9.fresh (S.X8 v) (S.I5 w).length S.tick.tick=q at a c f1 f2 f3 f4 f5 f6 ⊢;generalize E9.fresh (S.X8 v) (S.I5 w).length (S.tick.tick.Q9 m2)=q' at a c g1 g2 g3 g4 g5 g6 ⊢;have kn:=ok.YP hw;have kw:=ok.knd hw;have Vr:S.F9 w=7\/S.F9 w=8\/S.F9 w=9:=by
     by_cases A4n:S.F9 w<=5
     ·exfalso;have h0:(S.I5 w).length=0:=by rw[kn];unfold Nu;rw[A7 (by omega),A7 (by omega)]
      have hu:=ok.L6 hw;obtain⟨d,d1,-,d3,d4,-⟩:=hu.nd;have hr:(S.L6 w).r=w:=rw_;rw[hr]at d1;have hk:(S.L6 w).D6=[]:=by
       have:d.D6.length=0:=by rw[<- Du d1];exact h0
       exact zaq.1 (by omega)
      have h4:=(ok.CP hw).1 R6;rcases NT.Au.1 h4 with e | ⟨u,hu,-⟩
      ·exact absurd (show w=4 by rw[<- hr];exact e.symm) xE
      ·rw[hk]at hu;cases hu
     ·omega
    have nd:∀(q:E9×List Nat×Nat),(∀y∈q.2.1,y<q.1.l.length)->q.2.1.length=(S.I5 w).length->q.2.1.getD 0 0<q.1.l.length/\(S.F9 w≠8->q.2.1.getD 1 0<q.1.l.length):=by
     intro q h1 h2;rw[kn]at h2;constructor
     ·have:0<q.2.1.length:=by rw[h2];unfold Nu;split<;>(try split)<;>omega
      rw[z6q,z3q this];exact h1 _ (z9q this)
     ·intro h8;have:1<q.2.1.length:=by rw[h2];unfold Nu;rw[A7 h8,C8 (by omega)];omega
      rw[z6q,z3q this];exact h1 _ (z9q this)
    have vl:v<q'.1.l.length:=z0q hv g2.le;have cont:q'.2.2=0->q'.1.cnt<=(q'.1.make (S.F9 w) (q'.2.1.getD 0 0) (q'.2.1.getD 1 0)).1.cnt/\(q'.1.make (S.F9 w) (q'.2.1.getD 0 0) (q'.2.1.getD 1 0)).1.cnt<=((q'.1.make (S.F9 w) (q'.2.1.getD 0 0) (q'.2.1.getD 1 0)).1.link v (q'.1.make (S.F9 w) (q'.2.1.getD 0 0) (q'.2.1.getD 1 0)).2.1).1.cnt:=λh0=>by obtain⟨n0,n1⟩:=nd q' g5 (g6 h0);obtain⟨p1,p2,p3,p4,p5,p6⟩:=GK g1 Vr n0 n1;exact⟨p6,ziq (Zh p1 (z0q vl p2.le) p4).cnt.symm⟩
    by_cases e7:q.2.2=7
    ·have nq:q.2.2≠0:=by omega
     simp only[C8 nq];refine⟨λh=>absurd e7 h,λ_=>?_⟩;split
     ·exact c e7
     ·rename_i h0;have h0:=Classical.not_not.1 h0;obtain⟨y1,y2⟩:=cont h0;rcases c e7 with h | h
      ·exact absurd h0 h
      ·split
       ·exact .inr (z0q h y1)
       ·exact .inr (z0q h (z7q y1 y2))
    ·have eq:=a e7;subst eq;by_cases e0:q.2.2=0
     ·have nq:¬q.2.2≠0:=λg=>g e0;simp only[A7 nq];obtain⟨n0,n1⟩:=nd q f5 (f6 e0);obtain⟨a2,c2⟩:=A5U hm (f2.mx.trans h1) f1 (S.F9 w) (q.2.1.getD 0 0) (q.2.1.getD 1 0);obtain⟨-,ct⟩:=cont e0;simp only at ct;generalize q.1.make (S.F9 w) (q.2.1.getD 0 0) (q.2.1.getD 1 0)=z at a2 c2 ⊢;generalize (q.1.Q9 m2).make (S.F9 w) (q.2.1.getD 0 0) (q.2.1.getD 1 0)=z' at a2 c2 ct ⊢;by_cases z7:z.2.2=7
      ·have nz:z.2.2≠0:=by omega
       simp only[C8 nz];refine⟨λh=>absurd z7 h,λ_=>?_⟩;split
       ·exact c2 z7
       ·rename_i h0;rcases c2 z7 with h | h
        ·exact absurd h h0
        ·exact .inr (z0q h ct)
      ·have eq:=a2 z7;subst eq;by_cases z0:z.2.2=0
       ·have nz:¬z.2.2≠0:=λg=>g z0;simp only[A7 nz,yR];exact⟨λ_=>rfl,λh=>absurd h (lk7 _ _ _)⟩
       ·have nz:z.2.2≠0:=z0;simp only[C8 nz];exact⟨λ_=>rfl,λh=>absurd h z7⟩
     ·have nq:q.2.2≠0:=e0;simp only[C8 nq];exact⟨λ_=>rfl,λh=>absurd h e7⟩
end Go.Su

/-
 TWO LIMITS: agreement, types that are put.
-/
namespace Go.Su
theorem NJ(f:Nat)(S:E9)(m:Nat)(p:Nat×Nat)(rest:List (Nat×Nat)):E9.O9 (f+1) (S.Q9 m) (p::rest) =
 if S.root p.1=S.root p.2 then E9.O9 f (S.Q9 m) rest
 else if S.root p.1=4 then E9.O9 f ((S.lower (S.root p.2) 0).Q9 m) rest
 else if S.root p.2=4 then E9.O9 f ((S.lower (S.root p.1) 0).Q9 m) rest
 else if S.F9 (S.root p.1)=6 then
  if ((S.Q9 m).become (S.root p.1) (S.root p.2)).2.2≠0 then some (((S.Q9 m).become (S.root p.1) (S.root p.2)).1,0,0,((S.Q9 m).become (S.root p.1) (S.root p.2)).2.2)
  else match ((S.Q9 m).become (S.root p.1) (S.root p.2)).2.1 with
   |none=>E9.O9 f ((S.Q9 m).become (S.root p.1) (S.root p.2)).1 rest
   |some k=>E9.O9 f ((S.Q9 m).become (S.root p.1) (S.root p.2)).1 ((((S.Q9 m).become (S.root p.1) (S.root p.2)).1.I5 (((S.Q9 m).become (S.root p.1) (S.root p.2)).1.root k)).zip (((S.Q9 m).become (S.root p.1) (S.root p.2)).1.I5 (((S.Q9 m).become (S.root p.1) (S.root p.2)).1.root (S.root p.2)))++rest)
 else if S.F9 (S.root p.2)=6 then
  if ((S.Q9 m).become (S.root p.2) (S.root p.1)).2.2≠0 then some (((S.Q9 m).become (S.root p.2) (S.root p.1)).1,0,0,((S.Q9 m).become (S.root p.2) (S.root p.1)).2.2)
  else match ((S.Q9 m).become (S.root p.2) (S.root p.1)).2.1 with
   |none=>E9.O9 f ((S.Q9 m).become (S.root p.2) (S.root p.1)).1 rest
   |some k=>E9.O9 f ((S.Q9 m).become (S.root p.2) (S.root p.1)).1 ((((S.Q9 m).become (S.root p.2) (S.root p.1)).1.I5 (((S.Q9 m).become (S.root p.2) (S.root p.1)).1.root (S.root p.1))).zip (((S.Q9 m).become (S.root p.2) (S.root p.1)).1.I5 (((S.Q9 m).become (S.root p.2) (S.root p.1)).1.root k))++rest)
 else if S.F9 (S.root p.1)≠S.F9 (S.root p.2)then some (S.Q9 m,S.F9 (S.root p.1),S.F9 (S.root p.2),4)
 else E9.O9 f (S.Q9 m) ((S.I5 (S.root p.1)).zip (S.I5 (S.root p.2))++rest):=by
 rw[Y7];simp only[IX,Qn,A2W,VB]
 try rfl
section
variable {m1 m2:Nat}(hm:m1<=m2)(HY:m2<=65536)
include hm HY
theorem zh:∀(f:Nat)(S:E9)(l:List (Nat×Nat))(q:E9×Nat×Nat×Nat),S.mx=m1->S.Ok->(∀p∈l,p.1<S.l.length/\p.2<S.l.length)->E9.O9 f S l=some q->
 (q.2.2.2≠7->E9.O9 f (S.Q9 m2) l=some (q.1.Q9 m2,q.2))/\(q.2.2.2=7->∀g q',E9.O9 g (S.Q9 m2) l=some q'->q'.2.2.2≠0\/m1<q'.1.cnt)
 |0,S,l,q,h1,ok,hl,h=>by simp[E9.O9]at h
 |f+1,S,[],q,h1,ok,hl,h=>by simp only[E9.O9,D8]at h;subst h;exact⟨λ_=>rfl,λh=>by simp at h⟩
 |f+1,S,p::rest,q,h1,ok,hl,h=>by
   obtain⟨p1,p2⟩:=hl p (z4q ..);have BI:∀q∈rest,q.1<S.l.length/\q.2<S.l.length:=λq hq=>hl q (z2q _ hq);have x1:=ok.Hg p1;have x2:=ok.Hg p2;have uD:=ok.Q9 (m:=m2) (by omega) HY;have D6:∀(T:E9)(x y:Nat),T.Ok->S.l.length<=T.l.length->x<T.l.length->y<T.l.length->∀q∈(T.I5 (T.root x)).zip (T.I5 (T.root y))++rest,q.1<T.l.length/\q.2<T.l.length:=by
    intro T x y okT e hx hy q hq;rcases z8q.1 hq with hq | hq
    ·exact⟨okT.NS hx (zlq hq).1,okT.NS hy (zlq hq).2⟩
    ·exact⟨z0q (BI q hq).1 e,z0q (BI q hq).2 e⟩
   have lift:∀{T:E9}{l2:List (Nat×Nat)},T.mx=m1->T.Ok->(∀p∈l2,p.1<T.l.length/\p.2<T.l.length)->E9.O9 f T l2=some q->(∀g,E9.O9 (g+1) (S.Q9 m2) (p::rest)=E9.O9 g (T.Q9 m2) l2)->
    (q.2.2.2≠7->E9.O9 (f+1) (S.Q9 m2) (p::rest)=some (q.1.Q9 m2,q.2))/\(q.2.2.2=7->∀g q',E9.O9 g (S.Q9 m2) (p::rest)=some q'->q'.2.2.2≠0\/m1<q'.1.cnt):=by
    intro T l2 t1 tok tl th te;obtain⟨a,c⟩:=zh f T l2 q t1 tok tl th;refine⟨λh7=>by rw[te];exact a h7,λh7 g q' hq=>?_⟩;cases g with
    |zero=>simp[E9.O9]at hq
    |succ g=>rw[te]at hq;exact c h7 g q' hq
   rw[Y7]at h;by_cases c1:S.root p.1=S.root p.2
   ·rw[C8 c1]at h;exact lift h1 ok BI h λg=>by rw[NJ,C8 c1]
   rw[A7 c1]at h;have low:∀n,∀q∈rest,q.1<(S.lower n 0).l.length/\q.2<(S.lower n 0).l.length:=λn q hq=>by rw[show(S.lower n 0).l.length=S.l.length from NU ..];exact BI q hq
   by_cases c2:S.root p.1=4
   ·rw[C8 c2]at h;exact lift (T:=S.lower (S.root p.2) 0) h1 (ok.lower _ _) (low _) h λg=>by rw[NJ,A7 c1,C8 c2]
   rw[A7 c2]at h;by_cases c3:S.root p.2=4
   ·rw[C8 c3]at h;exact lift (T:=S.lower (S.root p.1) 0) h1 (ok.lower _ _) (low _) h λg=>by rw[NJ,A7 c1,A7 c2,C8 c3]
   rw[A7 c3]at h;by_cases c4:S.F9 (S.root p.1)=6
   ·rw[C8 c4]at h;have B:=Gx ok x1 x2 (ok.rr p1) (ok.rr p2) c1 c3 c4;have B':=Gx uD (v:=S.root p.1) (w:=S.root p.2) x1 x2 (by rw[IX];exact ok.rr p1) (by rw[IX];exact ok.rr p2) c1 c3 c4;obtain⟨a,c⟩:=zm hm HY h1 ok (v:=S.root p.1) x1 x2 (ok.rr p2) c3;have UY:=λg=>NJ g S m2 p rest;simp only[A7 c1,A7 c2,A7 c3,C8 c4]at UY;generalize S.become (S.root p.1) (S.root p.2)=b at h B a c;generalize (S.Q9 m2).become (S.root p.1) (S.root p.2)=b' at B' a c UY;have LB:S.l.length<=b'.1.l.length:=B'.ext.le;by_cases e0:b.2.2=0
    ·rw[A7 (show ¬b.2.2≠0 from λg=>g e0)]at h;have eq:=a (by omega);subst eq;simp only[A7 (show ¬b.2.2≠0 from λg=>g e0)]at UY;cases hb:b.2.1 with
     |none=>rw[hb]at h;simp only[hb]at UY;exact lift (B.ext.mx.trans h1) B.ok (λq hq=>⟨z0q (BI q hq).1 B.ext.le,z0q (BI q hq).2 B.ext.le⟩) h UY
     |some k=>rw[hb]at h;simp only[hb,IX,VB]at UY;exact lift (B.ext.mx.trans h1) B.ok (D6 _ _ _ B.ok B.ext.le (B.some k e0 hb).1 (z0q x2 B.ext.le)) h UY
    ·rw[C8 (show b.2.2≠0 from e0)]at h;simp only[D8]at h;subst h;refine⟨λh7=>?_,λh7 g q' hq=>?_⟩
     ·have eq:=a h7;subst eq;rw[UY,C8 (show b.2.2≠0 from e0)]
     ·cases g with
      |zero=>simp[E9.O9]at hq
      |succ g=>
        rw[UY]at hq;by_cases e1:b'.2.2=0
        ·rw[A7 (show ¬b'.2.2≠0 from λg=>g e1)]at hq;have lm:m1<b'.1.cnt:=by
          rcases c h7 with h | h
          ·exact absurd e1 h
          ·exact h
         cases hb:b'.2.1 with
         |none=>rw[hb]at hq;have:=(Mt g b'.1 rest q' B'.ok (λq hq=>⟨z0q (BI q hq).1 LB,z0q (BI q hq).2 LB⟩) hq).2.1.cnt;exact .inr (by omega)
         |some k=>rw[hb]at hq;have:=(Mt g b'.1 _ q' B'.ok (D6 _ _ _ B'.ok LB (B'.some k e1 hb).1 (z0q x2 LB)) hq).2.1.cnt;exact .inr (by omega)
        ·rw[C8 (show b'.2.2≠0 from e1)]at hq;simp only[D8]at hq;subst hq;exact .inl e1
   rw[A7 c4]at h;by_cases c5:S.F9 (S.root p.2)=6
   ·rw[C8 c5]at h;have B:=Gx ok x2 x1 (ok.rr p2) (ok.rr p1) (Ne.symm c1) c2 c5;have B':=Gx uD (v:=S.root p.2) (w:=S.root p.1) x2 x1 (by rw[IX];exact ok.rr p2) (by rw[IX];exact ok.rr p1) (Ne.symm c1) c2 c5;obtain⟨a,c⟩:=zm hm HY h1 ok (v:=S.root p.2) x2 x1 (ok.rr p1) c2;have UY:=λg=>NJ g S m2 p rest;simp only[A7 c1,A7 c2,A7 c3,A7 c4,C8 c5]at UY;generalize S.become (S.root p.2) (S.root p.1)=b at h B a c;generalize (S.Q9 m2).become (S.root p.2) (S.root p.1)=b' at B' a c UY;have LB:S.l.length<=b'.1.l.length:=B'.ext.le;by_cases e0:b.2.2=0
    ·rw[A7 (show ¬b.2.2≠0 from λg=>g e0)]at h;have eq:=a (by omega);subst eq;simp only[A7 (show ¬b.2.2≠0 from λg=>g e0)]at UY;cases hb:b.2.1 with
     |none=>rw[hb]at h;simp only[hb]at UY;exact lift (B.ext.mx.trans h1) B.ok (λq hq=>⟨z0q (BI q hq).1 B.ext.le,z0q (BI q hq).2 B.ext.le⟩) h UY
     |some k=>rw[hb]at h;simp only[hb,IX,VB]at UY;exact lift (B.ext.mx.trans h1) B.ok (D6 _ _ _ B.ok B.ext.le (z0q x1 B.ext.le) (B.some k e0 hb).1) h UY
    ·rw[C8 (show b.2.2≠0 from e0)]at h;simp only[D8]at h;subst h;refine⟨λh7=>?_,λh7 g q' hq=>?_⟩
     ·have eq:=a h7;subst eq;rw[UY,C8 (show b.2.2≠0 from e0)]
     ·cases g with
      |zero=>simp[E9.O9]at hq
      |succ g=>
        rw[UY]at hq;by_cases e1:b'.2.2=0
        ·rw[A7 (show ¬b'.2.2≠0 from λg=>g e1)]at hq;have lm:m1<b'.1.cnt:=by
          rcases c h7 with h | h
          ·exact absurd e1 h
          ·exact h
         cases hb:b'.2.1 with
         |none=>rw[hb]at hq;have:=(Mt g b'.1 rest q' B'.ok (λq hq=>⟨z0q (BI q hq).1 LB,z0q (BI q hq).2 LB⟩) hq).2.1.cnt;exact .inr (by omega)
         |some k=>rw[hb]at hq;have:=(Mt g b'.1 _ q' B'.ok (D6 _ _ _ B'.ok LB (z0q x1 LB) (B'.some k e1 hb).1) hq).2.1.cnt;exact .inr (by omega)
        ·rw[C8 (show b'.2.2≠0 from e1)]at hq;simp only[D8]at hq;subst hq;exact .inl e1
   rw[A7 c5]at h;by_cases c6:S.F9 (S.root p.1)=S.F9 (S.root p.2)
   ·rw[A7 (show ¬S.F9 (S.root p.1)≠S.F9 (S.root p.2)from λg=>g c6)]at h;exact lift h1 ok (D6 S _ _ ok (z1q _) p1 p2) h λg=>by rw[NJ,A7 c1,A7 c2,A7 c3,A7 c4,A7 c5,A7 (show ¬S.F9 (S.root p.1)≠S.F9 (S.root p.2)from λg=>g c6)]
   ·rw[C8 (show S.F9 (S.root p.1)≠S.F9 (S.root p.2)from c6)]at h;simp only[D8]at h;subst h;refine⟨λ_=>by rw[NJ,A7 c1,A7 c2,A7 c3,A7 c4,A7 c5,C8 (show S.F9 (S.root p.1)≠S.F9 (S.root p.2)from c6)],λh=>by simp at h⟩
theorem B0K{S:E9}(h1:S.mx=m1)(ok:S.Ok){a b:Nat}(ha:a<S.l.length)(hb:b<S.l.length):((S.agree a b).2.2.2≠7->(S.Q9 m2).agree a b=((S.agree a b).1.Q9 m2,(S.agree a b).2))/\((S.agree a b).2.2.2=7->((S.Q9 m2).agree a b).2.2.2≠0\/m1<((S.Q9 m2).agree a b).1.cnt):=by obtain⟨f,hf⟩:=WC ok ha hb;have uD:=ok.Q9 (m:=m2) (by omega) HY;obtain⟨g,hg⟩:=WC uD (a:=a) (b:=b) ha hb;obtain⟨x,y⟩:=zh hm HY f S _ _ h1 ok (by simp[ha,hb]) hf;exact⟨λh=>xk uD ha hb (x h),λh=>y h g _ hg⟩
end
mutual
theorem A6l:∀(t:Ty)(S:E9)(m:Nat),La t (S.Q9 m)=((La t S).1.Q9 m,(La t S).2)
 |.mk k n ts,S,m=>by
   rw[La,La];split
   ·rfl
   ·rw[A6k ts S m];rfl
theorem A6k:∀(ts:List Ty)(S:E9)(m:Nat),BR ts (S.Q9 m)=((BR ts S).1.Q9 m,(BR ts S).2)
 |[],S,m=>by rw[BR,BR]
 |t::ts,S,m=>by rw[BR,BR,A6l t S m,A6k ts _ m]
end
theorem B5f{m1 m2:Nat}(hm:m1<=m2)(HY:m2<=65536){S:E9}(h1:S.mx=m1)(ok:S.Ok){t:Ty}(ht:t.rc):lG m1 m2 (S.put t) ((S.Q9 m2).put t):=by
 have cm:=ok.cm;have uD:=ok.Q9 (m:=m2) (by omega) HY;have e:(S.Q9 m2).cnt=S.cnt:=rfl;have e2:(S.Q9 m2).mx=m2:=rfl;unfold E9.put;rw[e,e2];by_cases g:JA t>S.mx-S.cnt
 ·rw[C8 g];refine⟨λh=>absurd rfl h,λ_=>?_⟩;split
  ·exact .inl (by simp)
  ·rename_i g2;have:=(We t ht _ uD (by rw[e,e2];omega)).1.cnt;rw[e]at this;exact .inr (by simp only;omega)
 ·rw[A7 g,A7 (show ¬JA t>m2-S.cnt by omega),A6l];exact⟨λ_=>rfl,λh=>by simp at h⟩
end Go.Su

/-
 TWO LIMITS: copies.
-/
namespace Go.Su
set_option linter.defProp false
mutual
theorem xw(K:List (Nat×Nat))(m:Nat):∀(t:NT)(S:E9)(M:List (Nat×Nat)),t.copy K (S.Q9 m,M)=((t.copy K (S,M)).1,(t.copy K (S,M)).2.1.Q9 m,(t.copy K (S,M)).2.2)
 |.mk r k ts,S,M=>by
   have h:=A2w K m ts S M;rw[NT.copy,NT.copy];simp only;cases Gh K r with
   |some t=>rfl
   |none=>
     simp only
     split
     ·rfl
     ·cases Gh M r with
      |some t=>rfl
      |none=>simp only;rw[h];rfl
theorem A2w(K:List (Nat×Nat))(m:Nat):∀(ts:List NT)(S:E9)(M:List (Nat×Nat)),NT.T9 K ts (S.Q9 m,M)=((NT.T9 K ts (S,M)).1,(NT.T9 K ts (S,M)).2.1.Q9 m,(NT.T9 K ts (S,M)).2.2)
 |[],S,M=>by rw[NT.T9,NT.T9]
 |t::ts,S,M=>by rw[NT.T9,NT.T9,xw K m t S M,A2w K m ts]
end
theorem A5N(S:E9)(m:Nat):∀(fs ts:List Nat)(K:List (Nat×Nat)),(S.Q9 m).keys fs ts K=S.keys fs ts K
 |[],ts,K=>rfl
 |f::fs,ts,K=>by
   rw[E9.keys,E9.keys,IX,Qn];split
   ·exact A5N S m fs _ _
   ·rfl
def A55(S:E9)(m:Nat)(K:List (Nat×Nat))(n:Nat):(S.Q9 m).need K n=S.need K n:=by unfold E9.need;simp only[TZ,Qn,Zo]
def A8r(K:List Nat)(t:NT):t.has K=true↔∃y∈t.all,y∈K:=by
 induction t using NT.ind with
 |h r k ts ih=>
   rw[NT.has,A5D,Bool.or_eq_true,I9,List.any_eq_true];constructor
   ·rintro(h | ⟨t,ht,h⟩)
    ·exact⟨r,NT.Au.2 (.inl rfl),h⟩
    ·obtain⟨y,hy,hk⟩:=(ih t ht).1 h;exact⟨y,NT.Au.2 (.inr ⟨t,ht,hy⟩),hk⟩
   ·rintro⟨y,hy,hk⟩;rcases NT.Au.1 hy with rfl | ⟨t,ht,h⟩
    ·exact .inl hk
    ·exact .inr ⟨t,ht,(ih t ht).2 ⟨y,h,hk⟩⟩
def B0V{S0:E9}{n0:Nat}{K:List (Nat×Nat)}(ok0:S0.Ok)(hK6:∀e∈K,S0.F9 e.1=6){N:List Nat}(hN:N=(S0.roots n0).filter λr=>S0.F9 r != 6&&(S0.L6 r).has (K.map (·.1)))(t:NT):
 ∀n,U8 S0 n t->∀(S:E9)(M:List (Nat×Nat)),(∀r∈M.map (·.1),∀x∈(S0.L6 r).all,x∈N->x∈M.map (·.1))->(∀r∈M.map (·.1),r∈(t.copy K (S,M)).2.2.map (·.1))/\(∀x∈t.all,x∈N->x∈(t.copy K (S,M)).2.2.map (·.1))/\(∀r∈(t.copy K (S,M)).2.2.map (·.1),∀x∈(S0.L6 r).all,x∈N->x∈(t.copy K (S,M)).2.2.map (·.1)):=by
 induction t using NT.ind with
 |h r k ts ih=>
   intro n hu S M hM;have er:=hu.A6z;obtain⟨d,d1,d2,d3,d4,-⟩:=hu.nd;simp only[NT.Jm,NT.WW,NT.X0]at d1 d3 d4;have kd:=ok0.ki _ _ d1;rw[NT.copy];cases hf:Gh K r with
   |some m=>
     simp only;refine⟨λ_ h=>h,λx hx Yr=>?_,hM⟩;have h6:=hK6 _ (Kr hf);simp only at h6;have Dr:x=r:=by
      rcases NT.Au.1 hx with e | ⟨u,Bv,-⟩
      ·exact e
      ·exfalso;have h6':=h6;rw[Dv d1]at h6';have:ts.length=0:=by rw[<- d4,kd.1,h6'];rfl
       rw[NT.X0,zaq.1 this]at Bv;cases Bv
     rw[hN,zsq,Dr,h6]at Yr;simp at Yr
   |none=>
     simp only
     by_cases hh:(NT.mk r k ts).has (K.map (·.1))=false
     ·rw[C8 hh];refine⟨λ_ h=>h,λx hx Yr=>?_,hM⟩;exfalso;rw[hN,zsq,zbq]at Yr;obtain⟨u,u1,u2,-,u4⟩:=hu.sub _ _ hx;rw[u1.eq]at Yr;obtain⟨y,hy,hk⟩:=(A8r _ _).1 Yr.2.2;rw[(A8r _ _).2 ⟨y,u4 y hy,hk⟩]at hh;cases hh
     ·rw[A7 hh];cases hm:Gh M r with
      |some m=>simp only;have hr:r∈M.map (·.1):=List.mem_map.2 ⟨_,Kr hm,rfl⟩;refine⟨λ_ h=>h,λx hx Yr=>?_,hM⟩;exact hM r hr x (by rw[er];exact hx) Yr
      |none=>
        simp only;have key:∀(us:List NT),(∀u∈us,u∈ts)->∀(S:E9)(M:List (Nat×Nat)),(∀r∈M.map (·.1),∀x∈(S0.L6 r).all,x∈N->x∈M.map (·.1))->
         (∀r∈M.map (·.1),r∈(NT.T9 K us (S,M)).2.2.map (·.1))/\(∀u∈us,∀x∈u.all,x∈N->x∈(NT.T9 K us (S,M)).2.2.map (·.1))/\(∀r∈(NT.T9 K us (S,M)).2.2.map (·.1),∀x∈(S0.L6 r).all,x∈N->x∈(NT.T9 K us (S,M)).2.2.map (·.1)):=by
         intro us;induction us with
         |nil=>intro _ S M hM;rw[NT.T9];exact⟨λ_ h=>h,by simp,hM⟩
         |cons u us ihu=>
           intro hs S M hM;have Bv:=hs u (z4q ..);obtain⟨m,hm⟩:=hu.kid (u:=u) Bv;obtain⟨a1,a2,a3⟩:=ih u Bv m hm S M hM;obtain⟨c1,c2,c3⟩:=ihu (λw hw=>hs w (z2q _ hw)) (u.copy K (S,M)).2.1 (u.copy K (S,M)).2.2 a3;rw[NT.T9];refine⟨λr hr=>c1 r (a1 r hr),λw hw x hx Yr=>?_,c3⟩;rcases zdq.1 hw with rfl | hw
           ·exact c1 x (a2 x hx Yr)
           ·exact c2 w hw x hx Yr
        obtain⟨a1,a2,a3⟩:=key ts (λu hu=>hu) S M hM;generalize NT.T9 K ts (S,M)=q at a1 a2 a3 ⊢;have all:∀x∈(NT.mk r k ts).all,x∈N->x∈(q.2.2++[(r,q.2.1.l.length)]).map (·.1):=by
         intro x hx Yr;rw[zxq,z8q];rcases NT.Au.1 hx with e | ⟨u,Bv,Dr⟩
         ·exact .inr (by simpa using e)
         ·exact .inl (a2 u Bv x Dr Yr)
        refine⟨λx hx=>?_,all,λy hy x hx Yr=>?_⟩
        ·rw[zxq,z8q];exact .inl (a1 x hx)
        ·rw[zxq,z8q]at hy;rcases hy with hy | hy
         ·rw[zxq,z8q];exact .inl (a3 y hy x hx Yr)
         ·have:y=r:=by simpa using hy
          rw[this,er]at hx;exact all x hx Yr
def B0U{m1 m2:Nat}(hm:m1<=m2)(HY:m2<=65536){S:E9}(h1:S.mx=m1)(ok:S.Ok){n:Nat}(hn:n<S.l.length){from_ to:List Nat}(hl:from_.length<=to.length)(ht:∀t∈to,t<S.l.length):lG m1 m2 (S.copy n from_ to) ((S.Q9 m2).copy n from_ to):=by
 have cm:=ok.cm;have uD:=ok.Q9 (m:=m2) (by omega) HY;have e:(S.Q9 m2).cnt=S.cnt:=rfl;have e2:(S.Q9 m2).mx=m2:=rfl;unfold E9.copy;rw[A5N];cases hK:S.keys from_ to []with
 |none=>exact⟨λ_=>rfl,λh=>by simp at h⟩
 |some K=>
   simp only;rw[A55,e,e2,Zo,S_,xw];by_cases g:S.need K n>S.mx-S.cnt
   ·rw[C8 g];refine⟨λh=>absurd rfl h,λ_=>?_⟩;split
    ·exact .inl (by simp)
    ·rename_i g2;refine .inr ?_;have hk:=vC from_ to [] K hl ht (by simp) hK;have rt:∀m,(S.tick.Q9 m).roots n=S.roots n:=λm=>by rw[TZ];unfold E9.roots;rw[(ok.L6 hn).tick.eq]
     have PN:=uD.tick;have hu:U8 (S.tick.Q9 m2) n (S.L6 n):=oI.2 (ok.L6 hn).tick;have Bv:U8 (S.Q9 m2).tick n (S.L6 n):=hu;have nd:(S.Q9 m2).tick.need K n=S.need K n:=by rw[S_,A55,ZQ ok hn]
     obtain⟨C,-,-⟩:=Zd (S0:=(S.Q9 m2).tick) (n0:=n) (K:=K) PN hk (by rw[nd];exact zSq.1 g2) rfl (S.L6 n) n Bv (λx hx=>by rw[S_,rt];exact(ok.CP hn).2 hx) (S.Q9 m2).tick [] ⟨PN,DC.refl _,rfl,rfl,by simp,zPq,by simp⟩;have hk6:∀e∈K,(S.Q9 m2).tick.F9 e.1=6:=by
      have:∀(fs ts:List Nat)(K K':List (Nat×Nat)),(∀e∈K,S.F9 e.1=6)->S.keys fs ts K=some K'->∀e∈K',S.F9 e.1=6:=by
       intro fs;induction fs with
       |nil=>intro ts K K' h hk;simp only[E9.keys,D8]at hk;subst hk;exact h
       |cons f fs ih=>
         intro ts K K' h hk;rw[E9.keys]at hk;split at hk
         ·rename_i g;refine ih _ _ _ (λe he=>?_) hk;rcases z8q.1 he with he | he
          ·exact h e he
          ·rw[z5q.1 he];exact g.1
         ·cases hk
      exact this from_ to [] K (by simp) hK
     obtain⟨-,F,-⟩:=B0V (S0:=(S.Q9 m2).tick) (n0:=n) (K:=K) PN hk6 rfl (S.L6 n) n Bv (S.Q9 m2).tick [] (by simp);have cc:=C.cnt;rw[S_,xw]at cc F;simp only at cc F;have len:S.need K n<=((S.L6 n).copy K (S.tick,[])).2.2.length:=by
      rw[<- ZQ ok hn];unfold E9.need;have lm:((S.L6 n).copy K (S.tick,[])).2.2.length=(((S.L6 n).copy K (S.tick,[])).2.2.map (·.1)).length:=(y0q ..).symm;rw[lm];refine Zg ((E9.xW _ _).filter _) λx hx=>?_;refine F x ?_ ?_
      ·have:=(zsq.1 hx).1;have e3:S.tick.roots n=S.roots n:=by unfold E9.roots;rw[(ok.L6 hn).tick.eq]
       rw[e3]at this;exact(ok.CP hn).1 this
      ·simp only[TZ,Qn,Zo]
       exact hx
     have e4:(S.tick.Q9 m2).cnt=S.cnt:=rfl;simp only;omega
   ·rw[A7 g,A7 (show ¬S.need K n>m2-S.cnt by omega)];exact⟨λ_=>rfl,λh=>by simp at h⟩
end Go.Su

/-
 TWO LIMITS: runs.
-/
namespace Go.Su
set_option linter.defProp false
def lG.out{m1 m2 o:Nat}{S:E9}{q q':E9×Nat×Nat}(h:lG m1 m2 q q')(hm:q.1.mx=m1)(hb:o=S.l.length)(le:S.l.length<=q.1.l.length)(lt:q.2.1<q.1.l.length):
 (q.2.2≠7->q'.2.2=q.2.2/\∃o',o<=o'/\(q'.1=q.1.Q9 m2/\q.1.mx=m1/\o'=q.1.l.length)/\(q'.2.1=q.2.1/\q.2.1<max o' 5))/\(q.2.2=7->q'.2.2≠0\/m1<q'.1.cnt) :=
 ⟨λh7=>by rw[h.1 h7];exact⟨rfl,q.1.l.length,by omega,⟨rfl,hm,rfl⟩,rfl,by omega⟩,h.2⟩
def L2.same{N:Nat->Nat->Prop}:∀{l:List Nat},(∀x∈l,N x x)->L2 N l l
 |[],_=>.nil
 |x::l,h=>.cons (h x (z4q ..)) (L2.same λy hy=>h y (z2q _ hy))
def L2.eq{P:Nat->Prop}{l k:List Nat}(h:L2 (λn n'=>n'=n/\P n) l k):k=l/\∀x∈l,P x:=by
 induction h with
 |nil=>exact⟨rfl,by simp⟩
 |cons a _ ih=>exact⟨by rw[a.1,ih.1],λx hx=>by
    rcases zdq.1 hx with rfl | hx
    ·exact a.2
    ·exact ih.2 x hx⟩
def A5Q(m1 m2:Nat)(hm:m1<=m2)(HY:m2<=65536):Q_ where
 Wd:=Nat
 le:=λa b=>a<=b
 rf:=λa=>z1q a
 tr:=λh k=>z7q h k
 T:=λb S S'=>S'=S.Q9 m2/\S.mx=m1/\b=S.l.length
 N:=λb n n'=>n'=n/\n<max b 5
 nm:=λle h=>⟨h.1,by have:=h.2;omega⟩
 lv:=λa b=>a=b
 lvs:=λh=>by rw[h]
 R9:=m1
 leaf:=λo j hj=>⟨rfl,by omega⟩
 tick:=λh=>⟨by rw[h.1];rfl,h.2.1,h.2.2⟩
 var:=λ{o S S' A8 lev'} ok ok' t L l1 l2=>by obtain⟨rfl,h1,hb⟩:=t;subst L;obtain⟨-,g,-,lt,-⟩:=Ms ok l1;exact(A8U hm h1 ok A8).out (g.mx.trans h1) hb g.le lt
 make:=λ{o S S' k a b a' b'} ok ok' t hk ha hb=>by
  obtain⟨rfl,h1,hl⟩:=t;have f5:=ok.five;obtain⟨rfl,ha⟩:=ha;have e:(S.Q9 m2).make k a' b'=(S.Q9 m2).make k a' b:=by
   unfold E9.make;by_cases h8:k=8
   ·simp only[C8 h8]
   ·rw[(hb h8).1]
  rw[e];obtain⟨-,g,-,lt,-⟩:=GK ok (x:=a') (y:=b) hk (by omega) (λh=>by have:=(hb h).2;omega);exact(A5U hm h1 ok k a' b).out (g.mx.trans h1) hl g.le lt
 put:=λ{o S S' t} ok ok' t' ht=>by obtain⟨rfl,h1,hl⟩:=t';obtain⟨-,g,-,lt⟩:=A6n ok ht;exact(B5f hm HY h1 ok ht).out (g.mx.trans h1) hl g.le lt
 agree:=λ{o S S' a b a' b'} ok ok' t ha hb=>by obtain⟨rfl,h1,hl⟩:=t;have f5:=ok.five;obtain⟨rfl,ha⟩:=ha;obtain⟨rfl,hb⟩:=hb;obtain⟨x,y⟩:=B0K hm HY h1 ok (a:=a') (b:=b') (by omega) (by omega);obtain⟨-,g,-⟩:=Zy ok (a:=a') (b:=b') (by omega) (by omega);exact⟨λh=>by rw[x h];exact⟨rfl,_,by rw[hl];exact g.le,rfl,g.mx.trans h1,rfl⟩,y⟩
 copy:=λ{o S S' n n' f f' t t'} ok ok' T hn hf ht hl=>by
  obtain⟨rfl,h1,hb⟩:=T;have f5:=ok.five;obtain⟨rfl,hn⟩:=hn;obtain⟨rfl,hf⟩:=hf.eq;obtain⟨rfl,ht⟩:=ht.eq;have xL:∀x∈t',x<S.l.length:=λx hx=>by have:=ht x hx;omega
  obtain⟨-,g,lt⟩:=aC ok (n:=n') (by omega) hl xL;exact(B0U hm HY h1 ok (by omega) hl xL).out (g.mx.trans h1) hb g.le lt
 vars:=λ{o S S' n n' A8 lev'} ok ok' T hn L=>by
  obtain⟨rfl,h1,hb⟩:=T;have f5:=ok.five;obtain⟨rfl,hn⟩:=hn;subst L;have e:((S.Q9 m2).vars n').filter (λv=>decide (A8<(S.Q9 m2).X8 v))=(S.vars n').filter λv=>decide (A8<S.X8 v):=by rw[A7f];rfl
  rw[e];refine L2.same λx hx=>⟨rfl,?_⟩;have:=ok.NZ (n:=n') (by omega) (zsq.1 (zsq.1 hx).1).1;omega
 E8:=λ{o S S' n n'} ok ok' T hn=>by obtain⟨rfl,h1,hb⟩:=T;obtain⟨rfl,hn⟩:=hn;rw[IX];rfl
 D6:=λ{o S S' n n'} ok ok' T hn=>by obtain⟨rfl,h1,hb⟩:=T;obtain⟨rfl,hn⟩:=hn;have f5:=ok.five;rw[IX,VB];refine L2.same λx hx=>⟨rfl,?_⟩;have:=ok.NS (n:=n') (by omega) hx;omega
 lt:=λ{o S S' n n'} ok ok' T hn=>by obtain⟨rfl,h1,hb⟩:=T;have f5:=ok.five;obtain⟨rfl,hn⟩:=hn;have e:(S.Q9 m2).l.length=S.l.length:=rfl;rw[e];omega
end Go.Su

/-
 TWO LIMITS: what is read; results.
-/
namespace Go.Su
theorem A3h(m:Nat)(t:NT):t.Bh m=min t.ty.size (m+1):=by
 induction t using NT.ind with
 |h r k ts ih=>
   have key:∀(us:List NT),(∀u∈us,u∈ts)->∀k,k<=m+1->NT.IR m us k=min (k+((NT.tyL us).map Ty.size).sum) (m+1):=by
    intro us;induction us with
    |nil=>intro _ k hk;rw[NT.IR,NT.tyL];simp;omega
    |cons u us ihu=>intro hs k hk;rw[NT.IR,NT.tyL,ihu (λw hw=>hs w (z2q _ hw)) _ (zFq ..),ih u (hs u (z4q ..)),zeq,zfq];omega
   rw[NT.Bh,key ts (λu hu=>hu) 1 (by omega),NT.ty,Ty.size_eq];rfl
theorem A6w{m1 m2:Nat}(hm:m1<=m2){S:E9}(h1:S.mx=m1)(ok:S.Ok)(n:Nat):lG m1 m2 (S.read n) ((S.Q9 m2).read n):=by
 have cm:=ok.cm;have e:(S.Q9 m2).cnt=S.cnt:=rfl;have e2:(S.Q9 m2).mx=m2:=rfl;unfold E9.read;rw[Zo,e,e2,A3h,A3h];by_cases g:min (S.L6 n).ty.size (S.mx-S.cnt+1)>S.mx-S.cnt
 ·rw[C8 g];refine⟨λh=>absurd rfl h,λ_=>?_⟩;split
  ·exact .inl (by simp)
  ·refine .inr ?_;simp only;omega
 ·rw[A7 g,A7 (by omega)];have:min (S.L6 n).ty.size (m2-S.cnt+1)=min (S.L6 n).ty.size (S.mx-S.cnt+1):=by omega
  rw[this];exact⟨λ_=>rfl,λh=>by simp at h⟩
structure LW(m1 m2:Nat)(w w':W):Prop where
 ok:w.s.Ok
 ok':w'.s.Ok
 mx:w.s.mx=m1
 r:(w.err≠7/\w'.s=w.s.Q9 m2/\w'.err=w.err/\w'.bad=w.bad)\/(w.err=7/\(w'.err≠0\/m1<w'.s.cnt))
section
variable {m1 m2:Nat}(hm:m1<=m2)
include hm
theorem B1W{w w':W}(h:LW m1 m2 w w')(n:Nat)(e0:w.err=0)(IE:w'.err=0):LW m1 m2 (w.rd n) (w'.rd n)/\((w.rd n).err≠7->(w'.s.read n).2.1=(w.s.read n).2.1):=by
 obtain⟨a1,-⟩:=ZW h.ok n;obtain⟨b1,-⟩:=ZW h.ok' n;have mx:(w.rd n).s.mx=m1:=by have:(w.rd n).s=(w.s.read n).1:=W9 ..;rw[this,<- h.mx];unfold E9.read;split<;>rfl
 rcases h.r with⟨h7,es,ee,eb⟩ | ⟨h7,-⟩
 ·obtain⟨x,y⟩:=A6w hm h.mx h.ok n;rw[<- es]at x y;have f1:(w.rd n).err=(w.s.read n).2.2:=Ef _ _ _ e0;have f2:(w'.rd n).err=(w'.s.read n).2.2:=Ef _ _ _ IE;have f3:(w.rd n).s=(w.s.read n).1:=W9 ..;have f4:(w'.rd n).s=(w'.s.read n).1:=W9 ..;by_cases e7:(w.s.read n).2.2=7
  ·exact⟨⟨a1,b1,mx,.inr ⟨f1.trans e7,by rw[f2,f4];exact y e7⟩⟩,λh=>absurd (f1.trans e7) h⟩
  ·have eq:=x e7;refine⟨⟨a1,b1,mx,.inl ⟨by rw[f1];exact e7,by rw[f3,f4,eq],by rw[f1,f2,eq],?_⟩⟩,λ_=>by rw[eq]⟩;have g1:(w.rd n).bad=_:=dh _ _ _ e0;have g2:(w'.rd n).bad=_:=dh _ _ _ IE;rw[g1,g2,eq];simp only;rw[eb]
 ·omega
end
end Go.Su
