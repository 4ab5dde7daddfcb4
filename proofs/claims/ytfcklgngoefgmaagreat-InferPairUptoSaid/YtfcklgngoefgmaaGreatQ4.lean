/-
  Parts of the proof, merged: SuN4, SuN5, SuN6, SuN7, SuN8, SuN9, SuN10, SuN11, SuN12, SuN13, SuN14, SuN15, SuN16, SuN17, SuN18, SuN19, SuN20, SuN21, SuN22, SuN23, SuN24, SuN25, SuN26, SuN27, SuN28, SuN29, SuN30, SuN31.
-/
import Derived.Test.YtfcklgngoefgmaaGreatQ3
set_option linter.defProp false
set_option linter.unusedSectionVars false
set_option linter.unusedSimpArgs false
set_option linter.unusedVariables false
open Bool renaming and_eq_true → zbq
open List renaming mem_cons_of_mem → z2q, getElem?_eq_getElem → z3q, mem_cons_self → z4q, getD_eq_getElem?_getD → z5q, mem_singleton → z6q, getElem_mem → z8q, length_eq_zero_iff → z9q, mem_append → zaq, map_cons → zdq, mem_cons → zeq, sum_cons → zgq, length_append → ziq, mem_iff_getElem → zlq, of_mem_zip → zmq, not_mem_nil → znq, map_append → zpq, mem_of_find?_eq_some → zqq, length_cons → zsq, length_map → zuq, cons_append → zvq, zip_cons_cons → zwq, getElem_zipWith → zyq, map_congr_left → zzq, length_zipWith → zAq, map_map → zBq, mem_filter → zCq, map_nil → zDq, filter_congr → zEq, mem_of_mem_tail → zGq, all_eq_true → zIq, getElem_of_mem → zJq, find?_cons → zLq, getElem_cons_zero → zNq, getElem_map → zOq, length_filter_le → zPq, nil_append → zSq, length_nil → zTq, filter_map → zWq, mem_map → zYq, zip_nil_left → zZq, reverse_cons → y1q, getElem?_map → y2q, countP_cons → y3q, sum_nil → y4q, nodup_nil → y8q
open Nat renaming lt_of_lt_of_le → z0q, le_refl → z1q, le_trans → z7q, add_mul → zcq, zero_le → zfq, le_add_right → zhq, le_of_eq → zjq, le_max_right → zkq, le_max_left → zrq, le_mul_of_pos_left → ztq, lt_or_ge → zxq, pow_le_pow_right → zFq, pow_le_pow_left → zHq, le_of_lt → zKq, exists_eq_add_of_le → zMq, mul_le_mul_right → zQq, mul_le_mul → zUq, add_le_add → zVq, le_succ → zXq, min_le_right → y0q, le_zero → y5q, mul_pow → y6q, not_lt → y7q
open Option renaming map_some → zoq, map_none → zRq
namespace Go.Su
section
structure Y3(S S':E9):Prop where
 le:S.l.length<=S'.l.length
 mx:S'.mx=S.mx
 cnt:S.cnt<=S'.cnt
 J8:S.J8<=S'.J8
variable (S:E9)
def Y3.refl:Y3 S S:=⟨z1q _,rfl,z1q _,z1q _⟩
def Y3.trans{S T U:E9}(h:Y3 S T)(k:Y3 T U):Y3 S U:=⟨z7q h.le k.le,k.mx.trans h.mx,z7q h.cnt k.cnt,z7q h.J8 k.J8⟩
def Y3.tick:Y3 S S.tick:=⟨z1q _,rfl,z1q _,zXq _⟩
def Y3.lower(n A8:Nat):Y3 S (S.lower n A8):=⟨zjq (Np ..).symm,rfl,z1q _,zXq _⟩
def Ms(d:Nd):Bool:=d.E8==6&&d.link.isNone
def E9.uv:Nat:=S.l.countP Ms
def A8i{l l':List Nd}(hl:l'.length=l.length)(h:∀(n:Nat)(d d':Nd),l[n]?=some d->l'[n]?=some d'->Ms d'=Ms d):l'.countP Ms=l.countP Ms:=by
 have:l'.map Ms=l.map Ms:=by
  refine List.ext_getElem (by simp[hl]) λi a c=>?_;rw[zOq,zOq];have a:i<l'.length:=by simpa using a
  have c:i<l.length:=by simpa using c
  exact h i _ _ (z3q c) (z3q a)
 have e:∀l:List Nd,l.countP Ms=(l.map Ms).countP id:=λl=>by rw[List.countP_map];rfl
 rw[e,e,this]
def A0Y{f:Nd->Nd}:∀{l:List Nd}{r:Nat}{d:Nd},l[r]?=some d->Ms d=true->Ms (f d)=false->(l.modify r f).countP Ms+1=l.countP Ms
 |[],r,d,h,_,_=>by simp at h
 |e::l,0,d,h,h1,h2=>by simp only[List.getElem?_cons_zero,D8]at h;subst h;simp[List.modify,h1,h2]
 |e::l,r+1,d,h,h1,h2=>by rw[List.getElem?_cons_succ]at h;have:=A0Y (l:=l) h h1 h2;rw[List.modify_succ_cons,y3q,y3q];omega
theorem B7t:S.tick.uv=S.uv:=rfl
theorem A0w(n A8:Nat):(S.lower n A8).uv=S.uv:=A8i (Np ..) λk d d' h h'=>by simp only[E9.lower]at h';rw[LX,h]at h';simp only[zoq,D8]at h';subst h';split<;>rfl
variable {S:E9}
def B5t{r t:Nat}{d:Nd}(h:S.l[r]?=some d)(h6:d.E8=6)(h0:d.link=none):(S.BF r t).uv+1=S.uv :=A0Y h (by simp[Ms,h6,h0]) (by simp[Ms])
structure B7x(S S':E9)(e:Nat):Prop where
 ok:S'.Ok
 len:S'.l.length=S.l.length
 mx:S'.mx=S.mx
 cnt:S'.cnt=S.cnt
 J8:S.J8<=S'.J8
 B44:S'.J8<=S.J8+2
 uv:e=0->S'.uv<S.uv
 at_:∀n,S'.F9 n=S.F9 n/\S'.I1 n=S.I1 n
def B30(S:E9)(m A8 n:Nat):(S.lower m A8).F9 n=S.F9 n/\(S.lower m A8).I1 n=S.I1 n:=by
 simp only[E9.F9,E9.I1,E9.lower];rw[LX];cases S.l[n]? with
 |none=>exact⟨rfl,rfl⟩
 |some d=>simp only[zoq];split<;>exact⟨rfl,rfl⟩
def B3Z(S:E9)(r t n:Nat):(S.BF r t).F9 n=S.F9 n/\(S.BF r t).I1 n=S.I1 n:=by
 simp only[E9.F9,E9.I1];rw[Ep];cases S.l[n]? with
 |none=>exact⟨rfl,rfl⟩
 |some d=>simp only[zoq];split<;>exact⟨rfl,rfl⟩
variable {n:Nat}
def UA{v:Nat}(ok:S.Ok)(hv:v<S.l.length)(hn:n<S.l.length)(h6:S.F9 (S.root v)=6)(hw:S.root v∉S.roots n):(S.tick.BF (S.root v) (S.root n)).Ok:=by obtain⟨d,d1,d2,-,-,d5,-⟩:=ok.nd hv;exact ok.tick.BF (S:=S.tick) d1 d2 (by rw[d5,h6]) (ok.K5 hn).self.tick λhx=>hw ((ok.DW hn).2 hx)
def lD(ok:S.Ok){v:Nat}(hv:v<S.l.length)(hn:n<S.l.length):B7x S (S.link v n).1 (S.link v n).2:=by
 unfold E9.link;split
 ·exact⟨ok,rfl,rfl,rfl,z1q _,by simp only;omega,λh=>by simp at h,λn=>⟨rfl,rfl⟩⟩
 ·rename_i h;split
  ·exact⟨ok.tick,rfl,rfl,rfl,zXq _,by simp only[E9.tick];omega,λh=>by simp at h,λn=>⟨rfl,rfl⟩⟩
  ·rename_i hw;have h6:S.F9 (S.root v)=6:=Classical.not_not.1 λg=>h (.inl g);have vH:=UA ok hv hn h6 hw;obtain⟨d,d1,d2,-,-,d5,d6⟩:=ok.nd hv;refine⟨vH.lower _ _,?_,rfl,rfl,?_,?_,λ_=>?_,λm=>?_⟩
   ·simp[E9.lower,Np,E9.BF,E9.tick]
   ·simp only[E9.lower,E9.BF,E9.tick];omega
   ·simp only[E9.lower,E9.BF,E9.tick];omega
   ·simp only
    rw[A0w];have:=B5t (S:=S.tick) (t:=S.root n) d1 (by rw[d5,h6]) d2;rw[B7t]at this;omega
   ·simp only
    obtain⟨a1,a2⟩:=B30 (S.tick.BF (S.root v) (S.root n)) (S.root n) (S.U8 (S.root v)) m;obtain⟨c1,c2⟩:=B3Z S.tick (S.root v) (S.root n) m;exact⟨a1.trans c1,a2.trans c2⟩
def T_(ok:S.Ok){v x:Nat}(hv:v<S.l.length)(hn:n<S.l.length)(hx:x<S.l.length)(hne:S.root x≠S.root v):(S.link v n).1.root x=S.root x:=by
 unfold E9.link;split
 ·rfl
 ·rename_i h;split
  ·exact(ok.K5 hx).tick.Hw
  ·rename_i hw;have h6:S.F9 (S.root v)=6:=Classical.not_not.1 λg=>h (.inl g);have vH:=UA ok hv hn h6 hw;obtain⟨d,d1,d2,-,-,d5,d6⟩:=ok.nd hv;have h1:X6 S.tick x (S.root x):=(ok.root hx).like (Y6.tick S);have h2:X6 (S.tick.BF (S.root v) (S.root n)) x (S.root x):=X6.link (S:=S.tick) d1 d2 h1 hne;have h3:=h2.like (Y6.lower _ (S.root n) (S.U8 (S.root v)));have ok3:=vH.lower (S.root n) (S.U8 (S.root v));exact h3.eq ⟨_,ok3.K5 h3.lt⟩
def E9.Ok.A8(ok:S.Ok)(hn:n<S.l.length):S.U8 n<2 ^ 31:=by have:=z3q hn;rw[oJ this];exact(ok.ki _ _ this).2.2.2.1
def E9.Ok.Nn(ok:S.Ok){x:Nat}(hn:n<S.l.length)(hx:x∈S.I1 (S.root n)):x<S.l.length:=by obtain⟨d,d1,d2,d3,d4,d5⟩:=(ok.K5 hn).nd;have hx:x∈S.I1 (S.K5 n).r:=hx;rw[ED d1]at hx;obtain⟨j,hj,rfl⟩:=zlq.1 hx;exact(d5 j hj (by omega)).lt
def E9.Ok.Yl(ok:S.Ok)(hn:n<S.l.length):(S.I1 n).length=NH (S.F9 n):=by have:=z3q hn;rw[ED this,DU this];exact(ok.ki _ _ this).1
def E9.Ok.knd(ok:S.Ok)(hn:n<S.l.length):1<=S.F9 n/\S.F9 n<=9/\(S.F9 n<=5->n+1=S.F9 n):=by have:=z3q hn;rw[DU this];have:=ok.ki _ _ this;exact⟨this.2.1,this.2.2.1,this.2.2.2.2⟩
def Lg(ok:S.Ok){A8:Nat}(hl:A8<2 ^ 31):(S.var A8).1.Ok/\Da S (S.var A8).1/\(S.var A8).1.J8=S.J8/\(S.var A8).2.1<(S.var A8).1.l.length/\((S.var A8).2.2=0->(S.var A8).1.cnt=S.cnt+1)/\S.cnt<=(S.var A8).1.cnt:=by
 unfold E9.var;have:=ok.cm;have:=ok.five;split
 ·exact⟨ok,Da.refl S,rfl,by simp only;omega,λh=>by simp at h,z1q _⟩
 ·exact⟨ok.add (by omega) rfl (by omega) (by omega) hl (by simp),Da.add _ _,rfl,by simp[E9.add],λ_=>rfl,by simp[E9.add]⟩
def Gd(ok:S.Ok){k x y:Nat}(hk:k=7\/k=8\/k=9)(hx:x<S.l.length)(hy:k≠8->y<S.l.length):(S.make k x y).1.Ok/\Da S (S.make k x y).1/\(S.make k x y).1.J8=S.J8/\(S.make k x y).2.1<(S.make k x y).1.l.length/\((S.make k x y).2.2=0->(S.make k x y).1.cnt=S.cnt+1)/\S.cnt<=(S.make k x y).1.cnt:=by
 unfold E9.make;have:=ok.cm;have:=ok.five;split
 ·exact⟨ok,Da.refl S,rfl,by simp only;omega,λh=>by simp at h,z1q _⟩
 ·refine⟨ok.add (by omega) ?_ (by omega) (by omega) (by omega) ?_,Da.add _ _,rfl,by simp[E9.add],λ_=>rfl,by simp[E9.add]⟩
  ·rcases hk with rfl | rfl | rfl<;>rfl
  ·intro z hz;split at hz
   ·rw[z6q.1 hz];exact hx
   ·rename_i h8;simp only[zeq,znq,or_false]at hz;rcases hz with rfl | rfl
    ·exact hx
    ·exact hy h8
def FR{A8:Nat}(hl:A8<2 ^ 31):∀(k:Nat)(S:E9),S.Ok->(E9.fresh A8 k S).1.Ok/\Da S (E9.fresh A8 k S).1/\(E9.fresh A8 k S).1.J8=S.J8/\S.cnt<=(E9.fresh A8 k S).1.cnt/\(∀x∈(E9.fresh A8 k S).2.1,x<(E9.fresh A8 k S).1.l.length)/\((E9.fresh A8 k S).2.2=0->(E9.fresh A8 k S).2.1.length=k)
 |0,S,ok=>⟨ok,Da.refl S,rfl,z1q _,by simp[E9.fresh],λ_=>rfl⟩
 |k+1,S,ok=>by
   obtain⟨a1,a2,a3,a4,a5,a6⟩:=Lg ok hl;rw[E9.fresh];split
   ·obtain⟨c1,c2,c3,c4,c5,c6⟩:=FR hl k _ a1;refine⟨c1,a2.trans c2,c3.trans a3,z7q a6 c4,λx hx=>?_,λh=>by simp[c6 h]⟩;rcases zeq.1 hx with rfl | hx
    ·exact z0q a4 c2.le
    ·exact c5 x hx
   ·exact⟨a1,a2,a3,a6,by simp,λh=>by rename_i g;exact absurd h g⟩
def Da.root{T:E9}(g:Da S T)(ok:S.Ok)(hn:n<S.l.length):T.root n=S.root n:=((ok.K5 hn).like g.like).Hw
def Y6.at_{T:E9}(L:Y6 S T)(hn:n<S.l.length):T.F9 n=S.F9 n/\T.I1 n=S.I1 n:=by have:=z3q hn;obtain⟨d',a,b,-,c⟩:=L _ _ this;rw[DU this,ED this,DU a,ED a];exact⟨b,c⟩
structure B9g(S:E9)(w:Nat)(q:E9×Option Nat×Nat):Prop where
 ok:q.1.Ok
 ext:Y3 S q.1
 J8:q.1.J8<=S.J8+5
 none:q.2.2=0->q.2.1=none->q.1.cnt=S.cnt/\q.1.uv<S.uv
 some:∀m,q.2.2=0->q.2.1=some m->m<q.1.l.length/\S.cnt<q.1.cnt/\q.1.F9 (q.1.root m)=q.1.F9 (q.1.root w)/\q.1.F9 (q.1.root w)=S.F9 w
def LA(ok:S.Ok){v w:Nat}(hv:v<S.l.length)(hw:w<S.l.length)(rv:S.root v=v)(rw_:S.root w=w)(hne:v≠w)(fC:w≠4)(h6:S.F9 v=6):B9g S w (S.become v w):=by
 unfold E9.become;split
 ·have L:=lD ok hv hw;exact⟨L.ok,⟨zjq L.len.symm,L.mx,zjq L.cnt.symm,L.J8⟩,by have:=L.B44;simp only;omega,λh _=>⟨L.cnt,L.uv h⟩,λm _ h=>by cases h⟩
 ·rename_i k6;split
  ·have L:=lD ok.tick (show v<S.tick.l.length from hv) (show w<S.tick.l.length from hw);refine⟨L.ok,⟨zjq L.len.symm,L.mx,zjq L.cnt.symm,?_⟩,?_,λh _=>⟨L.cnt,L.uv h⟩,λm _ h=>by cases h⟩
   ·have:=L.J8;simp only[E9.tick]at this ⊢;omega
   ·have:=L.B44;simp only[E9.tick]at this ⊢;omega
  ·rename_i R8;have R8:4∈S.roots w:=Classical.not_not.1 R8;split
   ·refine⟨ok.tick.tick,(Y3.tick S).trans (Y3.tick _),by simp only[E9.tick];omega,λh=>by simp at h,λm h=>by simp at h⟩
   ·rename_i Io;have UC:=ok.tick.tick;obtain⟨f1,f2,f3,f4,f5,f6⟩:=FR (ok.A8 hv) (S.I1 w).length _ UC;simp only;generalize E9.fresh (S.U8 v) (S.I1 w).length S.tick.tick=q at f1 f2 f3 f4 f5 f6 ⊢;have e1:Y3 S q.1:=⟨f2.le,f2.mx,f4,by rw[f3];simp only[E9.tick];omega⟩;have er:q.1.J8=S.J8+2:=by rw[f3];rfl
    have e0:q.1.cnt<=q.1.cnt:=z1q _;split
    ·rename_i g;exact⟨f1,e1,by simp only;omega,λh=>absurd h g,λm h=>absurd h g⟩
    ·rename_i g;have g0:q.2.2=0:=Classical.not_not.1 g;have ql:=f6 g0;have kw:=ok.knd hw;have kn:=ok.Yl hw;have w4:S.F9 w≠5->S.F9 w=7\/S.F9 w=8\/S.F9 w=9\/S.F9 w<=4:=λh=>by omega
     by_cases A5d:S.F9 w<=5
     ·have h0:(S.I1 w).length=0:=by rw[kn];unfold NH;rw[A7 (by omega),A7 (by omega)]
      have hu:=ok.K5 hw;obtain⟨d,d1,-,d3,d4,-⟩:=hu.nd;have hr:(S.K5 w).r=w:=rw_;rw[hr]at d1;have hk:(S.K5 w).D5=[]:=by
       have:d.D5.length=0:=by rw[<- ED d1];exact h0
       exact z9q.1 (by omega)
      have h4:=(ok.DW hw).1 R8;rcases NT.CF.1 h4 with e | ⟨u,hu,-⟩
      ·exact absurd (show w=4 by rw[<- hr];exact e.symm) fC
      ·rw[hk]at hu;cases hu
     ·have WQ:S.F9 w=7\/S.F9 w=8\/S.F9 w=9:=by omega
      have p0:q.2.1.getD 0 0<q.1.l.length:=by
       have:0<q.2.1.length:=by rw[ql,kn];unfold NH;split<;>(try split)<;>omega
       rw[z5q,z3q this];exact f5 _ (z8q this)
      have p1:S.F9 w≠8->q.2.1.getD 1 0<q.1.l.length:=by
       intro h8;have:1<q.2.1.length:=by rw[ql,kn];unfold NH;rw[A7 h8,A9 (by omega)];omega
       rw[z5q,z3q this];exact f5 _ (z8q this)
      obtain⟨m1,m2,m3,m4,m5,m6⟩:=Gd f1 WQ p0 p1;have mm:((q.1.make (S.F9 w) (q.2.1.getD 0 0) (q.2.1.getD 1 0)).2.2=0->(q.1.make (S.F9 w) (q.2.1.getD 0 0) (q.2.1.getD 1 0)).2.1=q.1.l.length/\(q.1.make (S.F9 w) (q.2.1.getD 0 0) (q.2.1.getD 1 0)).1.l[q.1.l.length]?=Option.some ⟨S.F9 w,0,Option.none,if S.F9 w=8 then[q.2.1.getD 0 0]else[q.2.1.getD 0 0,q.2.1.getD 1 0]⟩):=by
       unfold E9.make;split
       ·intro h;simp at h
       ·intro _;exact⟨rfl,by simp[E9.add]⟩
      generalize q.1.make (S.F9 w) (q.2.1.getD 0 0) (q.2.1.getD 1 0)=z at m1 m2 m3 m4 m5 m6 mm ⊢;have ez:Y3 S z.1:=e1.trans ⟨m2.le,m2.mx,m6,m2.J8⟩;split
      ·rename_i gz;exact⟨m1,ez,by simp only;omega,λh=>absurd h gz,λm h=>absurd h gz⟩
      ·rename_i gz;have z0:z.2.2=0:=Classical.not_not.1 gz;obtain⟨z1,z2⟩:=mm z0;have hvz:v<z.1.l.length:=z0q hv ez.le;have L:=lD m1 hvz m4;refine⟨L.ok,ez.trans ⟨zjq L.len.symm,L.mx,zjq L.cnt.symm,L.J8⟩,by have:=L.B44;simp only;omega,λ_ h=>(by cases h),λm h0 hm=>?_⟩;simp only[D8]at hm;subst hm;have c5:=m5 z0;have rm:z.1.root z.2.1=z.2.1:=by rw[z1];exact(X6.here z2 rfl).eq (m1.wf _ (by rw[<- z1];exact m4))
       have g1:Da S.tick.tick z.1:=f2.trans m2;have hv2:v<S.tick.tick.l.length:=hv;have hw2:w<S.tick.tick.l.length:=hw;have r2:∀x,x<S.l.length->S.tick.tick.root x=S.root x:=λx hx=>(ok.K5 hx).tick.tick.Hw;have rvz:z.1.root v=v:=by rw[g1.root UC hv2,r2 v hv,rv]
       have rwz:z.1.root w=w:=by rw[g1.root UC hw2,r2 w hw,rw_]
       have zv:z.2.1≠v:=by rw[z1];have:=e1.le;omega
       have a1:=T_ m1 hvz m4 m4 (by rw[rm,rvz];exact zv);have hwz:w<z.1.l.length:=z0q hw ez.le;have a2:=T_ m1 hvz m4 hwz (by rw[rwz,rvz];exact Ne.symm hne);rw[a1,a2,rm,rwz,(L.at_ _).1,(L.at_ _).1,z1,DU z2];have:=(Y6.at_ g1.like hw2).1;rw[this];have n1:=L.len;have n2:=L.cnt;rw[z1]at n1 n2 m4;refine⟨by rw[n1];exact m4,?_,rfl,rfl⟩;simp only;rw[n2,c5];have:=e1.cnt;omega
noncomputable def wt(S:E9)(l:List (Nat×Nat)):Nat:=(l.map λp=>(S.K5 p.1).big).sum
def B7u{T:E9}(g:Y6 S T)(ok:S.Ok){l:List (Nat×Nat)}(hl:∀p∈l,p.1<S.l.length):wt T l=wt S l:=by unfold wt;congr 1;refine zzq λp hp=>?_;rw[((ok.K5 (hl p hp)).like g).eq]
def B6e(t:NT):0<t.big:=by cases t;rw[NT.big];omega
def B3M{S:E9}(ok:S.Ok):∀(ks:List Nat)(ts:List NT)(js:List Nat),ks.length=ts.length->(∀(i:Nat)(h:i<ks.length)(h':i<ts.length),U9 S ks[i] ts[i])->wt S (ks.zip js)<=NT.zR ts
 |[],_,js,_,_=>by simp[wt]
 |k::ks,[],js,h,_=>by simp at h
 |k::ks,t::ts,[],_,_=>by simp[wt]
 |k::ks,t::ts,j::js,h,hu=>by
   have h1:=hu 0 (by simp) (by simp);simp only[zNq]at h1;have h2:=B3M ok ks ts js (by simpa using h) λi a c=>by have:=hu (i+1) (by simp;omega) (by simp;omega);simpa using this
   rw[NT.zR];simp only[wt,zwq,zdq,zgq,h1.eq]at h2 ⊢;omega
theorem Y8(f:Nat)(S:E9)(p:Nat×Nat)(rest:List (Nat×Nat)):E9.Q6 (f+1) S (p::rest) =
 if S.root p.1=S.root p.2 then E9.Q6 f S rest
 else if S.root p.1=4 then E9.Q6 f (S.lower (S.root p.2) 0) rest
 else if S.root p.2=4 then E9.Q6 f (S.lower (S.root p.1) 0) rest
 else if S.F9 (S.root p.1)=6 then
  if (S.become (S.root p.1) (S.root p.2)).2.2≠0 then some ((S.become (S.root p.1) (S.root p.2)).1,0,0,(S.become (S.root p.1) (S.root p.2)).2.2)
  else match (S.become (S.root p.1) (S.root p.2)).2.1 with
   |none=>E9.Q6 f (S.become (S.root p.1) (S.root p.2)).1 rest
   |some m=>E9.Q6 f (S.become (S.root p.1) (S.root p.2)).1 (((S.become (S.root p.1) (S.root p.2)).1.I1 ((S.become (S.root p.1) (S.root p.2)).1.root m)).zip ((S.become (S.root p.1) (S.root p.2)).1.I1 ((S.become (S.root p.1) (S.root p.2)).1.root (S.root p.2)))++rest)
 else if S.F9 (S.root p.2)=6 then
  if (S.become (S.root p.2) (S.root p.1)).2.2≠0 then some ((S.become (S.root p.2) (S.root p.1)).1,0,0,(S.become (S.root p.2) (S.root p.1)).2.2)
  else match (S.become (S.root p.2) (S.root p.1)).2.1 with
   |none=>E9.Q6 f (S.become (S.root p.2) (S.root p.1)).1 rest
   |some m=>E9.Q6 f (S.become (S.root p.2) (S.root p.1)).1 (((S.become (S.root p.2) (S.root p.1)).1.I1 ((S.become (S.root p.2) (S.root p.1)).1.root (S.root p.1))).zip ((S.become (S.root p.2) (S.root p.1)).1.I1 ((S.become (S.root p.2) (S.root p.1)).1.root m))++rest)
 else if S.F9 (S.root p.1)≠S.F9 (S.root p.2)then some (S,S.F9 (S.root p.1),S.F9 (S.root p.2),4)
 else E9.Q6 f S ((S.I1 (S.root p.1)).zip (S.I1 (S.root p.2))++rest):=by rw[E9.Q6];rfl
end
section
structure BD(S F:E9):Prop where
 le:S.l.length<=F.l.length
 at_:∀n,n<S.l.length->F.F9 n=S.F9 n/\F.I1 n=S.I1 n
 root:∀n,n<S.l.length->S.F9 (S.root n)≠6->F.root n=S.root n
 same:∀n,n<S.l.length->F.root (S.root n)=F.root n
variable {S:E9}
def BD.refl(ok:S.Ok):BD S S:=⟨z1q _,λ_ _=>⟨rfl,rfl⟩,λ_ _ _=>rfl,λn h=>ok.rr h⟩
variable {F:E9}
def BD.trans{T:E9}(ok:S.Ok)(h:BD S T)(k:BD T F):BD S F where
 le:=z7q h.le k.le
 at_ n hn:=by have a:=h.at_ n hn;have c:=k.at_ n (z0q hn h.le);exact⟨c.1.trans a.1,c.2.trans a.2⟩
 root n hn h6:=by have a:=h.root n hn h6;rw[k.root n (z0q hn h.le) (by rw[a,(h.at_ _ (ok.Gs hn)).1];exact h6),a]
 same n hn:=by have r:=z0q (ok.Gs hn) h.le;rw[<- k.same _ r,h.same n hn,k.same _ (z0q hn h.le)]
def BD.like{T:E9}(ok:S.Ok)(L:Y6 S T)(le:S.l.length<=T.l.length):BD S T :=⟨le,λn hn=>L.at_ hn,λn hn _=>((ok.K5 hn).like L).Hw,λn hn=>by have:T.root (S.K5 n).r=(S.K5 n).r:=((ok.K5 hn).self.like L).Hw;rw[((ok.K5 hn).like L).Hw];exact this⟩
def BD.U0{T:E9}(ok:S.Ok)(g:Da S T):BD S T:=.like ok g.like g.le
def oK(ok:S.Ok){v n x:Nat}(hv:v<S.l.length)(hn:n<S.l.length)(hx:x<S.l.length)(he:S.root x=S.root v)(h0:(S.link v n).2=0):(S.link v n).1.root x=S.root n:=by
 unfold E9.link at h0 ⊢;split
 ·rename_i h;rw[A9 h]at h0;simp at h0
 ·rename_i h;rw[A7 h]at h0;split
  ·rename_i hw;rw[A9 hw]at h0;simp at h0
  ·rename_i hw;have h6:S.F9 (S.root v)=6:=Classical.not_not.1 λg=>h (.inl g);have vH:=UA ok hv hn h6 hw;obtain⟨d,d1,d2,-,-,d5,d6⟩:=ok.nd hv;have h2:=X6.B5O (S:=S.tick) (to:=S.root n) d1 d2 (ok.K5 hn).self.tick (λg=>hw ((ok.DW hn).2 g)) ((ok.root hx).like (Y6.tick S)) he;have h3:=h2.like (Y6.lower _ (S.root n) (S.U8 (S.root v)));have ok3:=vH.lower (S.root n) (S.U8 (S.root v));exact h3.eq ⟨_,ok3.K5 h3.lt⟩
def BD.link(ok:S.Ok){v n:Nat}(hv:v<S.l.length)(hn:n<S.l.length)(h6:S.F9 (S.root v)=6):BD S (S.link v n).1:=by
 have L:=lD ok hv hn;refine⟨zjq L.len.symm,λx _=>L.at_ x,λx hx hk=>T_ ok hv hn hx λe=>hk (by rw[e];exact h6),λx hx=>?_⟩;by_cases e:S.root x=S.root v
 ·by_cases h0:(S.link v n).2=0
  ·rw[oK ok hv hn hx e h0,oK ok hv hn (ok.Gs hx) (by rw[ok.rr hx];exact e) h0]
  ·have:(S.link v n).1=S\/(S.link v n).1=S.tick:=by
    unfold E9.link at h0 ⊢;split
    ·exact .inl rfl
    ·rename_i h;rw[A7 h]at h0;split
     ·exact .inr rfl
     ·rename_i h2;rw[A7 h2]at h0;exact absurd rfl h0
   rcases this with g | g
   ·rw[g];exact ok.rr hx
   ·rw[g];exact(BD.like ok (Y6.tick S) (z1q _)).same x hx
 ·rw[T_ ok hv hn hx e,T_ ok hv hn (ok.Gs hx) (by rw[ok.rr hx];exact e),ok.rr hx]
def BD.become(ok:S.Ok){v w:Nat}(hv:v<S.l.length)(hw:w<S.l.length)(rv:S.root v=v)(rw_:S.root w=w)(hne:v≠w)(fC:w≠4)(h6:S.F9 v=6):BD S (S.become v w).1/\∀m,(S.become v w).2.2=0->(S.become v w).2.1=some m->(S.become v w).1.root v=(S.become v w).1.root m:=by
 have h6':S.F9 (S.root v)=6:=by rw[rv];exact h6
 have B:=LA ok hv hw rv rw_ hne fC h6;unfold E9.become at B ⊢;split
 ·exact⟨BD.link ok hv hw h6',λm _ h=>by cases h⟩
 ·rename_i k6;rw[A7 k6]at B;have t1:=BD.like ok (Y6.tick S) (z1q _);split
  ·refine⟨t1.trans ok (BD.link ok.tick hv hw ?_),λm _ h=>by cases h⟩;have:S.tick.root v=S.root v:=(ok.K5 hv).tick.Hw;rw[this];exact h6'
  ·rename_i R8;rw[A7 R8]at B;split
   ·exact⟨t1.trans ok (BD.like ok.tick (Y6.tick _) (z1q _)),λm h=>by simp at h⟩
   ·rename_i Io;rw[A7 Io]at B;have UC:=ok.tick.tick;have t2:=t1.trans ok (BD.like ok.tick (Y6.tick _) (z1q _));obtain⟨f1,f2,f3,f4,f5,f6⟩:=FR (ok.A8 hv) (S.I1 w).length _ UC;simp only at B ⊢;generalize E9.fresh (S.U8 v) (S.I1 w).length S.tick.tick=q at f1 f2 f3 f4 f5 f6 B ⊢;have t3:=t2.trans ok (BD.U0 UC f2);split
    ·rename_i g;exact⟨t3,λm h=>absurd h g⟩
    ·rename_i g;rw[A7 g]at B;have gz:Da q.1 (q.1.make (S.F9 w) (q.2.1.getD 0 0) (q.2.1.getD 1 0)).1:=by
      unfold E9.make;split
      ·exact Da.refl _
      ·exact Da.add _ _
     split
     ·exact⟨t3.trans ok (BD.U0 f1 gz),λm h=>by rename_i gg;exact absurd h gg⟩
     ·rename_i gg;rw[A7 gg]at B;have g0:q.2.2=0:=Classical.not_not.1 g;have ql:=f6 g0;have kw:=ok.knd hw;have kn:=ok.Yl hw;have WQ:S.F9 w=7\/S.F9 w=8\/S.F9 w=9:=by
       by_cases A5d:S.F9 w<=5
       ·exfalso;have h0:(S.I1 w).length=0:=by rw[kn];unfold NH;rw[A7 (by omega),A7 (by omega)]
        obtain⟨d,d1,-,d3,d4,-⟩:=(ok.K5 hw).nd;have hr:(S.K5 w).r=w:=rw_;rw[hr]at d1;have hk:(S.K5 w).D5=[]:=by
         have:d.D5.length=0:=by rw[<- ED d1];exact h0
         exact z9q.1 (by omega)
        rcases NT.CF.1 ((ok.DW hw).1 (Classical.not_not.1 R8))with e | ⟨u,hu,-⟩
        ·exact absurd (show w=4 by rw[<- hr];exact e.symm) fC
        ·rw[hk]at hu;cases hu
       ·omega
      have p0:q.2.1.getD 0 0<q.1.l.length:=by
       have:0<q.2.1.length:=by rw[ql,kn];unfold NH;split<;>(try split)<;>omega
       rw[z5q,z3q this];exact f5 _ (z8q this)
      have p1:S.F9 w≠8->q.2.1.getD 1 0<q.1.l.length:=by
       intro h8;have:1<q.2.1.length:=by rw[ql,kn];unfold NH;rw[A7 h8,A9 (by omega)];omega
       rw[z5q,z3q this];exact f5 _ (z8q this)
      obtain⟨m1,m2,m3,m4,m5,m6⟩:=Gd f1 WQ p0 p1;generalize q.1.make (S.F9 w) (q.2.1.getD 0 0) (q.2.1.getD 1 0)=z at m1 m2 m3 m4 m5 m6 gg gz B ⊢;have t4:=t3.trans ok (BD.U0 f1 gz);have hvz:=z0q hv t4.le;have rvz:z.1.root v=v:=by rw[m2.root f1 (z0q hv t3.le),f2.root UC hv];have:S.tick.tick.root v=S.root v:=(ok.K5 hv).tick.tick.Hw;rw[this,rv]
      have kvz:z.1.F9 (z.1.root v)=6:=by rw[rvz,(t4.at_ v hv).1];exact h6
      refine⟨t4.trans ok (BD.link m1 hvz m4 kvz),λm h0 hm=>?_⟩;simp only[D8]at hm;subst hm;have h0:(z.1.link v z.2.1).2=0:=h0;rw[oK m1 hvz m4 hvz rfl h0];by_cases e:z.1.root z.2.1=z.1.root v
      ·exfalso;unfold E9.link at h0;rw[A9 (.inr e.symm)]at h0;simp at h0
      ·exact(T_ m1 hvz m4 m4 e).symm
structure Goes(S T:E9)(p:Nat×Nat)(rest l:List (Nat×Nat)):Prop where
 ok:T.Ok
 ext:Y3 S T
 st:BD S T
 lt:∀q∈l,q.1<T.l.length/\q.2<T.l.length
 m:T.mx-T.cnt<S.mx-S.cnt\/(T.cnt=S.cnt/\(T.uv<S.uv\/(T.uv=S.uv/\wt T l<wt S (p::rest))))
 l:l=rest\/∃x y,l=(T.I1 (T.root x)).zip (T.I1 (T.root y))++rest/\T.root p.1=T.root x/\x<T.l.length/\T.F9 (T.root x)≠6
variable {rest:List (Nat×Nat)}
def agree_step(ok:S.Ok){p:Nat×Nat}(hl:∀q∈p::rest,q.1<S.l.length/\q.2<S.l.length):
 (∃q,(∀f,E9.Q6 (f+1) S (p::rest)=some q)/\q.1.Ok/\Y3 S q.1/\BD S q.1)\/∃T l,(∀f,E9.Q6 (f+1) S (p::rest)=E9.Q6 f T l)/\Goes S T p rest l:=by
 obtain⟨h1,h2⟩:=hl p (z4q ..);have CJ:∀q∈rest,q.1<S.l.length/\q.2<S.l.length:=λq hq=>hl q (z2q _ hq);have hw:wt S rest<wt S (p::rest):=by have:=B6e (S.K5 p.1);simp only[wt,zdq,zgq];omega
 have x1:=ok.Gs h1;have x2:=ok.Gs h2;have ZM:∀{T:E9},Y3 S T->∀q∈rest,q.1<T.l.length/\q.2<T.l.length:=λe q hq=>⟨z0q (CJ q hq).1 e.le,z0q (CJ q hq).2 e.le⟩;have low:∀n,Goes S (S.lower n 0) p rest rest:=λn=>⟨ok.lower _ _,Y3.lower S _ _,.like ok (Y6.lower S _ _) (zjq (Np ..).symm),ZM (Y3.lower S _ _),.inr ⟨rfl,.inr ⟨A0w ..,by rw[B7u (Y6.lower S _ _) ok λq hq=>(CJ q hq).1];exact hw⟩⟩,.inl rfl⟩;have D5:∀(T:E9)(x y:Nat),T.Ok->Y3 S T->x<T.l.length->y<T.l.length->∀q∈(T.I1 (T.root x)).zip (T.I1 (T.root y))++rest,q.1<T.l.length/\q.2<T.l.length:=by
  intro T x y okT e hx hy q hq;rcases zaq.1 hq with hq | hq
  ·exact⟨okT.Nn hx (zmq hq).1,okT.Nn hy (zmq hq).2⟩
  ·exact ZM e q hq
 by_cases c1:S.root p.1=S.root p.2
 ·exact .inr ⟨S,rest,λf=>by rw[Y8,A9 c1],ok,Y3.refl S,BD.refl ok,CJ,.inr ⟨rfl,.inr ⟨rfl,hw⟩⟩,.inl rfl⟩
 by_cases c2:S.root p.1=4
 ·exact .inr ⟨_,rest,λf=>by rw[Y8,A7 c1,A9 c2],low _⟩
 by_cases c3:S.root p.2=4
 ·exact .inr ⟨_,rest,λf=>by rw[Y8,A7 c1,A7 c2,A9 c3],low _⟩
 by_cases c4:S.F9 (S.root p.1)=6
 ·have B:=LA ok x1 x2 (ok.rr h1) (ok.rr h2) c1 c3 c4;obtain⟨B2,B3⟩:=BD.become ok x1 x2 (ok.rr h1) (ok.rr h2) c1 c3 c4;by_cases e0:(S.become (S.root p.1) (S.root p.2)).2.2=0
  ·cases hm:(S.become (S.root p.1) (S.root p.2)).2.1 with
   |none=>obtain⟨b1,b2⟩:=B.none e0 hm;exact .inr ⟨_,rest,λf=>by rw[Y8,A7 c1,A7 c2,A7 c3,A9 c4,A7 (λg=>g e0),hm],B.ok,B.ext,B2,ZM B.ext,.inr ⟨b1,.inl b2⟩,.inl rfl⟩
   |some m=>
     obtain⟨b1,b2,b3,b4⟩:=B.some m e0 hm;have:=B.ok.cm;have em:=B.ext.mx;refine .inr ⟨_,_,λf=>by rw[Y8,A7 c1,A7 c2,A7 c3,A9 c4,A7 (λg=>g e0),hm],B.ok,B.ext,B2,D5 _ m _ B.ok B.ext b1 (z0q x2 B.ext.le),.inl (by omega),.inr ⟨m,S.root p.2,rfl,?_,b1,?_⟩⟩
     ·rw[<- B3 m e0 hm];exact(B2.same _ h1).symm
     ·rw[b3,b4];intro h6;unfold E9.become at hm;rw[A9 h6]at hm;cases hm
  ·exact .inl ⟨(_,0,0,_),λf=>by rw[Y8,A7 c1,A7 c2,A7 c3,A9 c4,A9 e0],B.ok,B.ext,B2⟩
 by_cases c5:S.F9 (S.root p.2)=6
 ·have B:=LA ok x2 x1 (ok.rr h2) (ok.rr h1) (Ne.symm c1) c2 c5;obtain⟨B2,B3⟩:=BD.become ok x2 x1 (ok.rr h2) (ok.rr h1) (Ne.symm c1) c2 c5;by_cases e0:(S.become (S.root p.2) (S.root p.1)).2.2=0
  ·cases hm:(S.become (S.root p.2) (S.root p.1)).2.1 with
   |none=>obtain⟨b1,b2⟩:=B.none e0 hm;exact .inr ⟨_,rest,λf=>by rw[Y8,A7 c1,A7 c2,A7 c3,A7 c4,A9 c5,A7 (λg=>g e0),hm],B.ok,B.ext,B2,ZM B.ext,.inr ⟨b1,.inl b2⟩,.inl rfl⟩
   |some m=>obtain⟨b1,b2,b3,b4⟩:=B.some m e0 hm;have:=B.ok.cm;have em:=B.ext.mx;refine .inr ⟨_,_,λf=>by rw[Y8,A7 c1,A7 c2,A7 c3,A7 c4,A9 c5,A7 (λg=>g e0),hm],B.ok,B.ext,B2,D5 _ _ m B.ok B.ext (z0q x1 B.ext.le) b1,.inl (by omega),.inr ⟨S.root p.1,m,rfl,(B2.same _ h1).symm,z0q x1 B.ext.le,?_⟩⟩;rw[b4];exact c4
  ·exact .inl ⟨(_,0,0,_),λf=>by rw[Y8,A7 c1,A7 c2,A7 c3,A7 c4,A9 c5,A9 e0],B.ok,B.ext,B2⟩
 by_cases c6:S.F9 (S.root p.1)=S.F9 (S.root p.2)
 ·refine .inr ⟨S,(S.I1 (S.root p.1)).zip (S.I1 (S.root p.2))++rest,λf=>by rw[Y8,A7 c1,A7 c2,A7 c3,A7 c4,A7 c5,A7 (λg=>g c6)],ok,Y3.refl S,BD.refl ok,D5 S _ _ ok (Y3.refl S) h1 h2,.inr ⟨rfl,.inr ⟨rfl,?_⟩⟩,.inr ⟨p.1,p.2,rfl,rfl,h1,c4⟩⟩;obtain⟨d,d1,d2,d3,d4,d5⟩:=(ok.K5 h1).nd;have hz:=B3M ok (S.I1 (S.root p.1)) (S.K5 p.1).D5 (S.I1 (S.root p.2)) (by
   have:S.I1 (S.root p.1)=d.D5:=ED d1;rw[this];exact d4) (by
   have:S.I1 (S.root p.1)=d.D5:=ED d1;rw[this];exact d5)
  have hb:(S.K5 p.1).big=1+NT.zR (S.K5 p.1).D5:=by cases S.K5 p.1;rw[NT.big];rfl
  simp only[wt,zdq,zgq,zpq,List.sum_append]at hz ⊢;omega
 ·exact .inl ⟨(S,_,_,4),λf=>by rw[Y8,A7 c1,A7 c2,A7 c3,A7 c4,A7 c5,A9 c6],ok,Y3.refl S,BD.refl ok⟩
def B3U:∀(A B C:Nat)(S:E9)(l:List (Nat×Nat)),S.mx-S.cnt<=A->S.uv<=B->wt S l<=C->S.Ok->(∀p∈l,p.1<S.l.length/\p.2<S.l.length)->∃f q,E9.Q6 f S l=some q:=by
 intro A;induction A using Nat.strongRecOn with
 |_ A ihA=>
 intro B;induction B using Nat.strongRecOn with
 |_ B ihB=>
 intro C;induction C using Nat.strongRecOn with
 |_ C ihC=>
   intro S l hA hB hC ok hl;cases l with
   |nil=>exact⟨1,_,rfl⟩
   |cons p rest=>
     rcases agree_step ok hl with⟨q,h,-⟩ | ⟨T,l,h,G⟩
     ·exact⟨1,q,h 0⟩
     ·have:∃f q,E9.Q6 f T l=some q:=by
       have em:=G.ext.mx;have cm:=G.ok.cm;rcases G.m with m | ⟨m0,m | ⟨m1,m2⟩⟩
       ·exact ihA _ (by omega) _ _ T l (z1q _) (z1q _) (z1q _) G.ok G.lt
       ·exact ihB _ (by omega) _ T l (by omega) (z1q _) (z1q _) G.ok G.lt
       ·exact ihC _ (by omega) T l (by omega) (by omega) (z1q _) G.ok G.lt
      obtain⟨f,q,hf⟩:=this;exact⟨f+1,q,(h f).trans hf⟩
def d_:∀(f:Nat)(S:E9)(l:List (Nat×Nat))(q:E9×Nat×Nat×Nat),S.Ok->(∀p∈l,p.1<S.l.length/\p.2<S.l.length)->E9.Q6 f S l=some q->q.1.Ok/\Y3 S q.1/\BD S q.1
 |0,S,l,q,ok,hl,h=>by simp[E9.Q6]at h
 |f+1,S,[],q,ok,hl,h=>by simp only[E9.Q6,D8]at h;subst h;exact⟨ok,Y3.refl S,BD.refl ok⟩
 |f+1,S,p::rest,q,ok,hl,h=>by
   rcases agree_step ok hl with⟨q',h',a,c,d⟩ | ⟨T,l,h',G⟩
   ·rw[h' f]at h;cases h;exact⟨a,c,d⟩
   ·rw[h' f]at h;obtain⟨a,c,d⟩:=d_ f T l q G.ok G.lt h;exact⟨a,G.ext.trans c,G.st.trans ok d⟩
def gp:∀(f:Nat)(S:E9)(l:List (Nat×Nat))(q:E9×Nat×Nat×Nat),S.Ok->(∀p∈l,p.1<S.l.length/\p.2<S.l.length)->E9.Q6 f S l=some q->∀g,f<=g->E9.Q6 g S l=some q
 |0,S,l,q,ok,hl,h,g,hg=>by simp[E9.Q6]at h
 |f+1,S,[],q,ok,hl,h,0,hg=>by omega
 |f+1,S,[],q,ok,hl,h,g+1,hg=>h
 |f+1,S,p::rest,q,ok,hl,h,0,hg=>by omega
 |f+1,S,p::rest,q,ok,hl,h,g+1,hg=>by
   rcases agree_step ok hl with⟨q',h',a,c,d⟩ | ⟨T,l,h',G⟩
   ·rw[h' f]at h;rw[h' g];exact h
   ·rw[h' f]at h;rw[h' g];exact gp f T l q G.ok G.lt h g (by omega)
def aT(ok:S.Ok){a b:Nat}(ha:a<S.l.length)(hb:b<S.l.length):∃f,E9.Q6 f S [(a,b)]=some (S.agree a b):=by have:∃f q,E9.Q6 f S [(a,b)]=some q:=B3U _ _ _ S _ (z1q _) (z1q _) (z1q _) ok (by simp[ha,hb]);unfold E9.agree;rw[dif_pos this];exact⟨_,this.choose_spec.choose_spec⟩
theorem zN(ok:S.Ok){a b:Nat}(ha:a<S.l.length)(hb:b<S.l.length){f:Nat}{q:E9×Nat×Nat×Nat}(h:E9.Q6 f S [(a,b)]=some q):S.agree a b=q:=by
 obtain⟨g,hg⟩:=aT ok ha hb;have hl:∀p∈[(a,b)],p.1<S.l.length/\p.2<S.l.length:=by simp[ha,hb]
 have h1:=gp f S _ q ok hl h (max f g) (zrq ..);have h2:=gp g S _ _ ok hl hg (max f g) (zkq ..);rw[h1]at h2;cases h2;rfl
def aU(ok:S.Ok){a b:Nat}(ha:a<S.l.length)(hb:b<S.l.length):(S.agree a b).1.Ok/\Y3 S (S.agree a b).1/\BD S (S.agree a b).1:=by obtain⟨f,hf⟩:=aT ok ha hb;exact d_ f S _ _ ok (by simp[ha,hb]) hf
mutual
def NT.high:NT->Nat
 |.mk _ _ ts=>NT.Zh ts+1
def NT.Zh:List NT->Nat
 |[]=>0
 |t::ts=>max t.high (NT.Zh ts)
end
def A6D:∀{ts:List NT}{t:NT},t∈ts->t.high<=NT.Zh ts
 |[],_,h=>by cases h
 |u::ts,t,h=>by
   rw[NT.Zh];rcases zeq.1 h with rfl | h
   ·omega
   ·have:=A6D h;omega
def A3I:∀{ts:List NT},ts≠[]->∃t∈ts,t.high=NT.Zh ts
 |[],h=>absurd rfl h
 |[t],_=>⟨t,z6q.2 rfl,by simp[NT.Zh]⟩
 |t::u::ts,_=>by
   obtain⟨w,w1,w2⟩:=A3I (ts:=u::ts) (by simp);rw[NT.Zh];by_cases h:t.high<=NT.Zh (u::ts)
   ·exact⟨w,z2q _ w1,by omega⟩
   ·exact⟨t,z4q ..,by omega⟩
def U9.high(t:NT):∀n,U9 S n t->∃l:List Nat,l.length=t.high/\l.Nodup/\∀x∈l,x∈t.all:=by
 induction t using NT.ind with
 |h r k ts ih=>
   intro n h;by_cases e:ts=[]
   ·exact⟨[r],by rw[NT.high,e];rfl,by simp,λx hx=>by rw[z6q.1 hx];exact NT.CF.2 (.inl rfl)⟩
   ·obtain⟨t,t1,t2⟩:=A3I e;obtain⟨m,hm⟩:=h.kid (u:=t) t1;obtain⟨l,l1,l2,l3⟩:=ih t t1 m hm;refine⟨r::l,by rw[NT.high,zsq,l1,t2],List.nodup_cons.2 ⟨λhr=>h.fresh t1 (l3 r hr),l2⟩,λx hx=>?_⟩;rcases zeq.1 hx with rfl | hx
    ·exact NT.CF.2 (.inl rfl)
    ·exact NT.CF.2 (.inr ⟨t,t1,l3 x hx⟩)
def E9.Ok.high(ok:S.Ok){n:Nat}(hn:n<S.l.length):(S.K5 n).high<=S.l.length:=by obtain⟨l,l1,l2,l3⟩:=U9.high _ _ (ok.K5 hn);have:=k_ l2 (m:=List.range S.l.length) λx hx=>List.mem_range.2 ((ok.K5 hn).B1V (l3 x hx));rw[List.length_range]at this;omega
def Low(F:E9)(H:Nat):List (Nat×Nat)->Prop
 |[]=>True
 |p::rest=>(F.K5 p.1).high+rest.length<=H/\Low F H rest
def Low.zip(okF:F.Ok){x H:Nat}(hx:x<F.l.length)(hr:Low F H rest)(h:(F.K5 x).high+rest.length<=H)(js:List Nat)(hk:(F.I1 (F.root x)).length<=2):Low F H ((F.I1 (F.root x)).zip js++rest):=by
 obtain⟨d,d1,d2,d3,d4,d5⟩:=(okF.K5 hx).nd;have e:F.I1 (F.root x)=d.D5:=ED d1;rw[e]at hk ⊢;have hh:(F.K5 x).high=NT.Zh (F.K5 x).D5+1:=by cases F.K5 x;rw[NT.high];rfl
 have kid:∀k∈d.D5,(F.K5 k).high+1<=(F.K5 x).high:=by intro k hk;obtain⟨j,hj,rfl⟩:=zlq.1 hk;have:=A6D (z8q (show j<(F.K5 x).D5.length by omega));rw[(d5 j hj (by omega)).eq];omega
 match d.D5,js,hk,kid with
 |[],js,_,_=>simpa using hr
 |[k],[],_,_=>simpa using hr
 |[k],j::js,_,kid=>have:=kid k (by simp);simp only[zwq,zZq,zvq,zSq];exact⟨by simp only;omega,hr⟩
 |[k,k'],[],_,_=>simpa using hr
 |[k,k'],[j],_,kid=>have:=kid k (by simp);simp only[zwq,List.zip_nil_right,zvq,zSq];exact⟨by simp only;omega,hr⟩
 |[k,k'],j::j'::js,_,kid=>have:=kid k (by simp);have:=kid k' (by simp);simp only[zwq,zZq,zvq,zSq];exact⟨by simp only[zsq];omega,by simp only;omega,hr⟩
 |_::_::_::_,_,hk,_=>simp at hk
def Low.len{H:Nat}:∀{l:List (Nat×Nat)},Low F H l->l.length<=H+1
 |[],_=>zfq _
 |p::l,h=>by have:=h.1;simp only[zsq];omega
end
noncomputable section
structure GJ where
 lo:Int
 hi:Int
 why:Nat
 left:Nat
 right:Nat
 name:ByteArray
def P7:GJ:=⟨0,0,0,0,0,Y4⟩
inductive DD where
 |mk (node:Nat) (types vars:List Nat) (D5:List DD)
structure EN where
 name:ByteArray
 node:Nat
 vars:List Nat
structure W where
 s:E9
 bad:GJ
 err:Nat
 types:List Nat
 vars:List Nat
 D5:List DD
def Ex.kd(t:Ex)(i:Nat):Ex:=t.D5.getD i t
structure PS where
 s:E9
 names:List ByteArray
 nodes:List Nat
 bad:GJ
namespace PS
def agree(x:PS)(lo hi:Int)(a b:Nat):PS×Nat :=({ x with s:=(x.s.agree a b).1,bad:=if (x.s.agree a b).2.2.2≠0/\(x.s.agree a b).2.2.2≠7 then⟨lo,hi,(x.s.agree a b).2.2.2,(x.s.agree a b).2.1,(x.s.agree a b).2.2.1,Y4⟩else x.bad },(x.s.agree a b).2.2.2)
def made(x:PS)(A8:Nat)(lo hi:Int)(n k many:Nat):PS×List Nat×Nat×Nat :=
 let f:=E9.fresh A8 many x.s
 if f.2.2≠0 then({ x with s:=f.1 },[],0,f.2.2)
 else
  let m:=f.1.make k (f.2.1.getD 0 0) (f.2.1.getD (many-1) 0)
  if m.2.2≠0 then({ x with s:=m.1 },[],0,m.2.2)
  else
   let a:=({ x with s:=m.1 }:PS).agree lo hi n m.2.1
   (a.1,f.2.1,m.2.1,a.2)
end PS
mutual
def BA(A8:Nat):F5->Nat->PS->PS×Nat
 |.mk k lo hi name _ _ ks,nd,x=>
   if k=1 then(x,0)
   else if k=2 then({ x with names:=x.names++[name],nodes:=x.nodes++[nd] },0)
   else if k=7 then
    if (x.made A8 lo hi nd 7 2).2.2.2≠0 then((x.made A8 lo hi nd 7 2).1,(x.made A8 lo hi nd 7 2).2.2.2)else Dk A8 ks (x.made A8 lo hi nd 7 2).2.1 (x.made A8 lo hi nd 7 2).1
   else if k=8\/k=9 then
    if (x.made A8 lo hi nd 8 1).2.2.2≠0\/k=8 then((x.made A8 lo hi nd 8 1).1,(x.made A8 lo hi nd 8 1).2.2.2)else Dk A8 ks ((x.made A8 lo hi nd 8 1).2.1++[(x.made A8 lo hi nd 8 1).2.2.1]) (x.made A8 lo hi nd 8 1).1
   else x.agree lo hi nd (k-3).toNat
def Dk(A8:Nat):List F5->List Nat->PS->PS×Nat
 |[],_,x=>(x,0)
 |p::ps,ns,x=>if (BA A8 p (ns.headD 0) x).2≠0 then BA A8 p (ns.headD 0) x else Dk A8 ps ns.tail (BA A8 p (ns.headD 0) x).1
end
namespace W
variable (w:W)
def fails(e:Nat)(b:GJ):W:=if w.err=0/\e≠0 then{ w with err:=e,bad:=if e≠7 then b else w.bad }else w
variable (A8:Nat)
def fresh:W×Nat:=if w.err≠0 then(w,0)else(({ w with s:=(w.s.var A8).1 }:W).fails (w.s.var A8).2.2 P7,(w.s.var A8).2.1)
def made(k a b:Nat):W×Nat:=if w.err≠0 then(w,0)else(({ w with s:=(w.s.make k a b).1 }:W).fails (w.s.make k a b).2.2 P7,(w.s.make k a b).2.1)
def put(t:Ty):W×Nat:=if w.err≠0 then(w,0)else(({ w with s:=(w.s.put t).1 }:W).fails (w.s.put t).2.2 P7,(w.s.put t).2.1)
def agree(a b:Nat)(e:Ex):W :=if w.err≠0 then w else({ w with s:=(w.s.agree a b).1 }:W).fails (w.s.agree a b).2.2.2 ⟨e.lo,e.hi,(w.s.agree a b).2.2.2,(w.s.agree a b).2.1,(w.s.agree a b).2.2.1,Y4⟩
def tell(q:W×Nat):W×Nat:=({ q.1 with types:=q.1.types++[q.2] },q.2)
def Y0(t:Ty)(A8:Nat):W×Nat:=if t.E8≠0 then w.put t else tell (w.fresh A8)
def above(n A8:Nat):W×List Nat:=({ w with s:=w.s.tick },(w.s.vars n).filter λv=>decide (A8<w.s.U8 v))
def many(A8:Nat):Nat->W->W
 |0,w=>w
 |k+1,w=>many A8 k (tell (w.fresh A8)).1
variable (e:Ex)
def name(A8:Nat)(l:List EN):W×Nat :=
 match l.reverse.find? λx=>decide (x.name=e.name)with
 |none=>(w.fails 6 ⟨e.lo,e.hi,6,0,0,e.name⟩,0)
 |some x=>
   if x.vars=[]then(w,x.node)
   else
    let w1:=many A8 x.vars.length w
    if w1.err≠0 then(w1,0)else(({ w1 with s:=(w1.s.copy x.node x.vars w1.types).1 }:W).fails (w1.s.copy x.node x.vars w1.types).2.2 P7,(w1.s.copy x.node x.vars w1.types).2.1)
end W
variable (w:W)
def TI(f a:Nat)(e:Ex)(A8:Nat):W×Nat :=
 if w.err≠0 then(w,0)
 else if w.s.F9 (w.s.root f)=5 then(w.agree a 4 (e.kd 1),4)
 else if w.s.F9 (w.s.root f)=6 then
  let v:=w.fresh A8
  let u:=v.1.fresh A8
  let m:=u.1.made 9 v.2 u.2
  ((m.1.agree f m.2 (e.kd 0)).agree a v.2 (e.kd 1),u.2)
 else if w.s.F9 (w.s.root f)=9 then(w.agree a ((w.s.I1 (w.s.root f)).getD 0 0) (e.kd 1),(w.s.I1 (w.s.root f)).getD 1 0)
 else(w.fails 4 ⟨(e.kd 0).lo,(e.kd 0).hi,4,w.s.F9 (w.s.root f),9,Y4⟩,0)
def Rec:=Ex->Nat->List EN->W->W×Nat×DD
section
variable (R:Rec)
def J2(w:W)(e:Ex)(A8:Nat)(l:List EN):W×Nat :=if w.err≠0 then(w,0)else({ (R e A8 l w).1 with types:=w.types,vars:=w.vars,D5:=w.D5++[(R e A8 l w).2.2] },(R e A8 l w).2.1)
def W.Y1(w:W)(l:List Nat):W:={ w with types:=l }
def W.RU(w:W)(l:List Nat):W:={ w with vars:=l }
def MM(w:W)(e:Ex)(A8:Nat)(l:List EN):W×Nat :=
 let a:=J2 R w (e.kd 0) A8 l
 let b:=J2 R a.1 (e.kd 1) A8 l
 let v:=b.1.fresh A8
 let n:=((v.1.Y1 [v.2]).agree a.2 v.2 (e.kd 0)).made 8 v.2 0
 (n.1.agree b.2 n.2 (e.kd 1),n.2)
def Ru(w:W)(e:Ex)(A8:Nat)(l:List EN):W×Nat :=
 let f:=J2 R w (e.kd 0) A8 l
 let a:=J2 R f.1 (e.kd 1) A8 l
 TI a.1 f.2 a.2 e A8
def Ry(w:W)(e:Ex)(A8:Nat)(l:List EN):W×Nat :=
 if e.a.E8≠0 then
  let a:=J2 R w (e.kd 0) A8 l
  let n:=a.1.put e.a
  J2 R (n.1.agree a.2 n.2 (e.kd 0)) (e.kd 1) A8 (l++[⟨e.name,n.2,[]⟩])
 else if (e.kd 0).value=true then
  let a:=J2 R w (e.kd 0) (A8+1) l
  if a.1.err≠0 then J2 R a.1 (e.kd 1) A8 (l++[⟨e.name,a.2,[]⟩])
  else J2 R ((a.1.above a.2 A8).1.RU (a.1.above a.2 A8).2) (e.kd 1) A8 (l++[⟨e.name,a.2,(a.1.above a.2 A8).2⟩])
 else
  let a:=J2 R w (e.kd 0) A8 l
  J2 R a.1 (e.kd 1) A8 (l++[⟨e.name,a.2,[]⟩])
def SA(w:W)(e:Ex)(A8:Nat)(l:List EN):W×Nat :=
 let p:=w.Y0 e.a (A8+1)
 let r:=p.1.Y0 e.b (A8+1)
 let f:=r.1.made 9 p.2 r.2
 let b:=J2 R f.1 (e.kd 0) (A8+1) (l++[⟨e.name,f.2,[]⟩,⟨e.arg,p.2,[]⟩])
 let w1:=b.1.agree b.2 r.2 (e.kd 0)
 if w1.err≠0 then J2 R w1 (e.kd 1) A8 (l++[⟨e.name,f.2,[]⟩])
 else J2 R ((w1.above f.2 A8).1.RU (w1.above f.2 A8).2) (e.kd 1) A8 (l++[⟨e.name,f.2,(w1.above f.2 A8).2⟩])
def ML(w:W)(e:Ex)(A8:Nat)(l:List EN):W×Nat :=
 let c:=J2 R w (e.kd 0) A8 l
 let a:=J2 R (c.1.agree c.2 1 (e.kd 0)) (e.kd 1) A8 l
 let b:=J2 R a.1 (e.kd 2) A8 l
 let v:=b.1.fresh A8
 (((v.1.Y1 [v.2]).agree a.2 v.2 (e.kd 1)).agree b.2 v.2 (e.kd 2),v.2)
def Ci(A8:Nat)(l:List EN)(v r:Nat):List (F5×Ex)->W->W×Nat
 |[],w=>(w,r)
 | (p,k)::qs,w=>
   if w.err≠0 then(w,0)
   else
    let q:=BA A8 p v ⟨w.s,[],[],P7⟩
    let w1:=({ w with s:=q.1.s }:W).fails q.2 q.1.bad
    let b:=J2 R w1 k A8 (l++if q.2≠0 then[]else List.zipWith (λs n=>⟨s,n,[]⟩) q.1.names q.1.nodes)
    Ci A8 l v r qs (b.1.agree b.2 r k)
def Ip(w:W)(e:Ex)(A8:Nat)(l:List EN):W×Nat :=
 let a:=J2 R w (e.kd 0) A8 l
 let v:=a.1.fresh A8
 let r:=(v.1.agree a.2 v.2 (e.kd 0)).fresh A8
 Ci R A8 l v.2 r.2 (e.J7.zip e.D5.tail) (r.1.Y1 [v.2,r.2])
def FE(A8:Nat)(l:List EN)(want:Nat):List Ex->W->W
 |[],w=>w
 |k::ks,w=>FE A8 l want ks ((J2 R w k A8 l).1.agree (J2 R w k A8 l).2 want k)
def R7(w:W)(e:Ex)(A8:Nat)(l:List EN):W×Nat :=
 if e.E8=1 then w.name e A8 l
 else if e.E8=2\/e.E8=3\/e.E8=4\/e.E8=5 then(w,(e.E8-2).toNat)
 else if e.E8=6 then
  let a:=J2 R w (e.kd 0) A8 l
  let b:=J2 R a.1 (e.kd 1) A8 l
  b.1.made 7 a.2 b.2
 else if e.E8=7 then(((w.fresh A8).1.Y1 [(w.fresh A8).2]).made 8 (w.fresh A8).2 0)
 else if e.E8=8 then MM R w e A8 l
 else if e.E8=9 then
  let p:=w.Y0 e.a A8
  let b:=J2 R p.1 (e.kd 0) A8 (l++[⟨e.name,p.2,[]⟩])
  b.1.made 9 p.2 b.2
 else if e.E8=10 then Ru R w e A8 l
 else if e.E8=11 then Ry R w e A8 l
 else if e.E8=12 then SA R w e A8 l
 else if e.E8=13 then ML R w e A8 l
 else if e.E8=14 then Ip R w e A8 l
 else if e.E8=15 then
  let a:=J2 R w (e.kd 0) A8 l
  let n:=a.1.put e.a
  (n.1.agree a.2 n.2 (e.kd 0),n.2)
 else(FE R A8 l (if e.op=7 then 2 else 0) e.D5 w,if e.op=5\/e.op=6\/e.op=7 then 1 else 0)
end
def K9:Nat->Rec
 |0=>λe A8 l w=>(w,0,.mk 0 [] [] [])
 |f+1=>λe A8 l w=>
   let q:=R7 (K9 f) { w with types:=[],vars:=[],D5:=[] } e A8 l
   (q.1,q.2,.mk q.2 q.1.types q.1.vars q.1.D5)
mutual
def AR:DD->W->W
 |.mk n _ _ ks,w=>if w.err≠0 then w else LY ks (({ w with s:=(w.s.read n).1 }:W).fails (w.s.read n).2.2 P7)
def LY:List DD->W->W
 |[],w=>w
 |k::ks,w=>LY ks (AR k w)
end
def Ar:List Nat->W->W×List Ty
 |[],w=>(w,[])
 |n::ns,w=>
   if w.err≠0 then(w,[])
   else((Ar ns (({ w with s:=(w.s.read n).1 }:W).fails (w.s.read n).2.2 P7)).1,(w.s.read n).2.1::(Ar ns (({ w with s:=(w.s.read n).1 }:W).fails (w.s.read n).2.2 P7)).2)
mutual
def BM:DD->W->W×K8
 |.mk _ ts vs ks,w=>((C_ ks (Ar ts w).1).1,.mk (Ar ts w).2 (vs.map Int.ofNat) (C_ ks (Ar ts w).1).2)
def C_:List DD->W->W×List K8
 |[],w=>(w,[])
 |k::ks,w=>if w.err≠0 then(w,[])else((C_ ks (BM k w).1).1,(BM k w).2::(C_ ks (BM k w).1).2)
end
def Cu(vs:List Int)(N:List Int):List Int:=vs.foldl (λN v=>if v∈N then N else N++[v]) N
mutual
def oL:K8->List Int->List Int
 |.mk ts vs ks,N=>Zl ks (Cu vs (ts.foldl (λN t=>Cu t.vars N) N))
def Zl:List K8->List Int->List Int
 |[],N=>N
 |k::ks,N=>Zl ks (oL k N)
end
def numOf(N:List Int)(v:Int):Int:=if v∈N then(N.idxOf v:Int)else 0
mutual
def Ht(N:List Int):Ty->Ty
 |.mk k n ts=>if k=6 then .mk k (numOf N n) ts else if ts.length=0 then .mk k n ts else .mk k 0 (Zn N ts)
def Zn(N:List Int):List Ty->List Ty
 |[]=>[]
 |t::ts=>Ht N t::Zn N ts
end
mutual
def Vf(N:List Int):K8->K8
 |.mk ts vs ks=>.mk (ts.map (Ht N)) (vs.map (numOf N)) (fU N ks)
def fU(N:List Int):List K8->List K8
 |[]=>[]
 |k::ks=>Vf N k::fU N ks
end
structure zL where
 ty:Ty
 dv:K8
 cnt:Nat
 bad:GJ
 err:Nat
def zD:K8:=.mk [] [] []
def J5(e:Ex)(mx:Nat):W×Nat×DD:=K9 e.size e 1 [] ⟨DX mx,P7,0,[],[],[]⟩
def W9(e:Ex)(mx:Nat):zL :=
 let x:=J5 e mx
 let r:=BM x.2.2 (AR x.2.2 x.1)
 if r.1.err≠0 then⟨zTy,zD,0,r.1.bad,r.1.err⟩
 else
  let N:=oL r.2 (Cu (x.1.s.read x.2.1).2.1.vars [])
  ⟨Ht N (x.1.s.read x.2.1).2.1,Vf N r.2,r.1.s.cnt,P7,0⟩
end
section
mutual
def DD.lt(n:Nat):DD->Prop
 |.mk m ts vs ks=>m<n/\(∀x∈ts,x<n)/\((∀x∈vs,x<n)/\vs.length<2 ^ 29)/\DD.ZN n ks
def DD.ZN(n:Nat):List DD->Prop
 |[]=>True
 |k::ks=>DD.lt n k/\DD.ZN n ks
end
def A2Q{n:Nat}:∀{ks:List DD},DD.ZN n ks↔∀k∈ks,DD.lt n k
 |[]=>by simp[DD.ZN]
 |k::ks=>by rw[DD.ZN,A2Q];simp
mutual
theorem DD.A9y{n m:Nat}(h:n<=m):∀d:DD,DD.lt n d->DD.lt m d
 |.mk a ts vs ks,g=>by rw[DD.lt]at g ⊢;exact⟨z0q g.1 h,λx hx=>z0q (g.2.1 x hx) h,⟨λx hx=>z0q (g.2.2.1.1 x hx) h,g.2.2.1.2⟩,A0b h ks g.2.2.2⟩
theorem A0b{n m:Nat}(h:n<=m):∀ks:List DD,DD.ZN n ks->DD.ZN m ks
 |[],g=>g
 |k::ks,g=>by rw[DD.ZN]at g ⊢;exact⟨DD.A9y h k g.1,A0b h ks g.2⟩
end
def Z5(n:Nat)(l:List EN):Prop:=∀x∈l,x.node<n/\∀v∈x.vars,v<n
variable {n:Nat}{l:List EN}
def Z5.mono{m:Nat}(h:Z5 n l)(le:n<=m):Z5 m l:=λx hx=>⟨z0q (h x hx).1 le,λv hv=>z0q ((h x hx).2 v hv) le⟩
def Z5.app{k:List EN}(h:Z5 n l)(g:Z5 n k):Z5 n (l++k):=λx hx=>by
 rcases zaq.1 hx with hx | hx
 ·exact h x hx
 ·exact g x hx
def Z5.one{s:ByteArray}{m:Nat}(h:m<n):Z5 n [⟨s,m,[]⟩]:=λx hx=>by rw[z6q.1 hx];exact⟨h,by simp⟩
structure j5(w:W):Prop where
 ok:w.s.Ok
 ty:∀x∈w.types,x<w.s.l.length
 vs:(∀x∈w.vars,x<w.s.l.length)/\w.vars.length<2 ^ 29
 ks:DD.ZN w.s.l.length w.D5
structure Good(w w':W):Prop where
 i:j5 w'
 ext:Y3 w.s w'.s
variable {w:W}
def Good.refl(h:j5 w):Good w w:=⟨h,Y3.refl _⟩
def Good.trans{a b c:W}(h:Good a b)(k:Good b c):Good a c:=⟨k.i,h.ext.trans k.ext⟩
def j5.s{w':W}(h:j5 w)(ok:w'.s.Ok)(e:Y3 w.s w'.s)(h1:w'.types=w.types)(h2:w'.vars=w.vars)(h3:w'.D5=w.D5):Good w w' :=⟨⟨ok,by rw[h1];exact λx hx=>z0q (h.ty x hx) e.le,by rw[h2];exact⟨λx hx=>z0q (h.vs.1 x hx) e.le,h.vs.2⟩,by rw[h3];exact A0b e.le _ h.ks⟩,e⟩
def Good.fails{w':W}(h:Good w w')(e:Nat)(b:GJ):Good w (w'.fails e b):=by
 unfold W.fails;split
 ·exact⟨⟨h.i.ok,h.i.ty,h.i.vs,h.i.ks⟩,h.ext⟩
 ·exact h
theorem X9(w:W)(e:Nat)(b:GJ):(w.fails e b).s=w.s:=by unfold W.fails;split<;>rfl
theorem Sa(w:W)(e:Nat)(b:GJ):(w.fails e b).types=w.types:=by unfold W.fails;split<;>rfl
variable {S:E9}
def Da.A7B{T:E9}(g:Da S T)(h:S.cnt<=T.cnt):Y3 S T:=⟨g.le,g.mx,h,g.J8⟩
variable {A8:Nat}
def Ab(h:j5 w)(hl:A8<2 ^ 31):Good w (w.fresh A8).1/\(w.fresh A8).2<(w.fresh A8).1.s.l.length:=by
 unfold W.fresh;split
 ·exact⟨Good.refl h,by have:=h.ok.five;simp only;omega⟩
 ·obtain⟨a1,a2,a3,a4,a5,a6⟩:=Lg h.ok hl;exact⟨(h.s (w':={ w with s:=(w.s.var A8).1 }) a1 (a2.A7B a6) rfl rfl rfl).fails _ _,by rw[X9];exact a4⟩
def EF(h:j5 w){k x y:Nat}(hk:k=7\/k=8\/k=9)(hx:x<w.s.l.length)(hy:k≠8->y<w.s.l.length):Good w (w.made k x y).1/\(w.made k x y).2<(w.made k x y).1.s.l.length:=by
 unfold W.made;split
 ·exact⟨Good.refl h,by have:=h.ok.five;simp only;omega⟩
 ·obtain⟨a1,a2,a3,a4,a5,a6⟩:=Gd h.ok hk hx hy;exact⟨(h.s (w':={ w with s:=(w.s.make k x y).1 }) a1 (a2.A7B a6) rfl rfl rfl).fails _ _,by rw[X9];exact a4⟩
variable {t:Ty}
def A7j(ok:S.Ok)(ht:t.rc):(S.put t).1.Ok/\Da S (S.put t).1/\S.cnt<=(S.put t).1.cnt/\(S.put t).2.1<(S.put t).1.l.length:=by
 unfold E9.put;have:=ok.cm;have:=ok.five;split
 ·exact⟨ok,Da.refl S,z1q _,by simp only;omega⟩
 ·obtain⟨p,p2⟩:=aI t ht S ok (by omega);exact⟨p.ok,p.U0,by rw[p.cnt];omega,p2⟩
def Qf(h:j5 w)(ht:t.rc):Good w (w.put t).1/\(w.put t).2<(w.put t).1.s.l.length:=by
 unfold W.put;split
 ·exact⟨Good.refl h,by have:=h.ok.five;simp only;omega⟩
 ·obtain⟨a1,a2,a3,a4⟩:=A7j h.ok ht;exact⟨(h.s (w':={ w with s:=(w.s.put t).1 }) a1 (a2.A7B a3) rfl rfl rfl).fails _ _,by rw[X9];exact a4⟩
def U3(h:j5 w){a b:Nat}(ha:a<w.s.l.length)(hb:b<w.s.l.length)(e:Ex):Good w (w.agree a b e):=by
 unfold W.agree;split
 ·exact Good.refl h
 ·obtain⟨a1,a2,-⟩:=aU h.ok ha hb;exact(h.s (w':={ w with s:=(w.s.agree a b).1 }) a1 a2 rfl rfl rfl).fails _ _
variable {l:List Nat}
def Dm{w':W}(h:Good w w')(hl:∀x∈l,x<w'.s.l.length):Good w (w'.Y1 l):=⟨⟨h.i.ok,hl,h.i.vs,h.i.ks⟩,h.ext⟩
def Hz{w':W}(h:Good w w')(hl:(∀x∈l,x<w'.s.l.length)/\l.length<2 ^ 29):Good w (w'.RU l):=⟨⟨h.i.ok,h.i.ty,hl,h.i.ks⟩,h.ext⟩
def gI{q:W×Nat}(h:Good w q.1)(hq:q.2<q.1.s.l.length):Good w (W.tell q).1/\(W.tell q).2<(W.tell q).1.s.l.length :=
 ⟨⟨⟨h.i.ok,λx hx=>by
   simp only[W.tell,zaq,z6q]at hx;rcases hx with hx | hx
   ·exact h.i.ty x hx
   ·rw[hx];exact hq,h.i.vs,h.i.ks⟩,h.ext⟩,hq⟩
def RF(h:j5 w)(ht:t.E8≠0->t.rc)(hl:A8<2 ^ 31):Good w (w.Y0 t A8).1/\(w.Y0 t A8).2<(w.Y0 t A8).1.s.l.length:=by
 unfold W.Y0;split
 ·rename_i g;exact Qf h (ht g)
 ·obtain⟨a,c⟩:=Ab h hl;exact gI a c
def B1T(ok:w.s.Ok)(hn:n<w.s.l.length):(w.above n A8).2.length<2 ^ 29:=by have h1:(w.above n A8).2.length<=(w.s.vars n).length:=zPq ..;have h2:(w.s.vars n).length<=(w.s.roots n).length:=zPq ..;have:=E9.A36 ok hn;have:=ok.lc;have:=ok.cm;have:=ok.mm;omega
def BS(h:j5 w)(hn:n<w.s.l.length):Good w (w.above n A8).1/\(∀x∈(w.above n A8).2,x<(w.above n A8).1.s.l.length)/\(w.above n A8).2.length<2 ^ 29 :=⟨h.s (w':={ w with s:=w.s.tick }) h.ok.tick (Y3.tick _) rfl rfl rfl,λx hx=>h.ok.Lp hn (zCq.1 (zCq.1 hx).1).1,B1T h.ok hn⟩
def uy{A8:Nat}(hl:A8<2 ^ 31):∀(k:Nat){w:W},j5 w->Good w (W.many A8 k w)
 |0,w,h=>Good.refl h
 |k+1,w,h=>by obtain⟨a,c⟩:=Ab h hl;obtain⟨d,-⟩:=gI a c;rw[W.many];exact d.trans (uy hl k d.i)
def A2L{S:E9}{n:Nat}:∀(fs ts:List Nat)(K K':List (Nat×Nat)),fs.length<=ts.length->(∀t∈ts,t<n)->(∀e∈K,e.2<n)->S.keys fs ts K=some K'->∀e∈K',e.2<n
 |[],ts,K,K',_,_,hk,h=>by simp only[E9.keys,D8]at h;subst h;exact hk
 |f::fs,[],K,K',hl,_,hk,h=>by simp at hl
 |f::fs,t::ts,K,K',hl,ht,hk,h=>by
   rw[E9.keys]at h;split at h
   ·refine A2L fs ts _ K' (by simpa using hl) (λx hx=>ht x (z2q _ hx)) (λe he=>?_) h;rcases zaq.1 he with he | he
    ·exact hk e he
    ·rw[z6q.1 he];exact ht t (z4q ..)
   ·cases h
theorem A1E(ok:S.Ok)(hn:n<S.l.length)(K:List (Nat×Nat)):S.tick.need K n=S.need K n:=by
 have hr:S.tick.roots n=S.roots n:=by unfold E9.roots;rw[(ok.K5 hn).tick.eq]
 unfold E9.need;rw[hr];congr 1;refine zEq λr h=>?_;have:=ok.Lp hn h;rw[(ok.K5 this).tick.eq];rfl
def aZ(ok:S.Ok)(hn:n<S.l.length){from_ to:List Nat}(hl:from_.length<=to.length)(ht:∀t∈to,t<S.l.length):(S.copy n from_ to).1.Ok/\Y3 S (S.copy n from_ to).1/\(S.copy n from_ to).2.1<(S.copy n from_ to).1.l.length:=by
 unfold E9.copy;have:=ok.five;split
 ·exact⟨ok,Y3.refl S,by simp only;omega⟩
 ·rename_i K hK;split
  ·exact⟨ok.tick,Y3.tick S,by simp only[E9.tick];omega⟩
  ·rename_i hnd;have hk:=A2L from_ to [] K hl ht (by simp) hK;have rt:S.tick.roots n=S.roots n:=by unfold E9.roots;rw[(ok.K5 hn).tick.eq]
   obtain⟨C,c2,-⟩:=jN (S0:=S.tick) (n0:=n) ok.tick hk (by rw[A1E ok hn];exact y7q.1 hnd) rfl (S.K5 n) n (ok.K5 hn).tick (λx hx=>by rw[rt];exact(ok.DW hn).2 hx) S.tick [] ⟨ok.tick,Da.refl _,rfl,rfl,by simp,y8q,by simp⟩;exact⟨C.ok,(Y3.tick S).trans (C.U0.A7B (by rw[C.cnt];omega)),c2⟩
def Q_{A8:Nat}:∀(k:Nat)(w:W),(W.many A8 k w).types.length=w.types.length+k
 |0,w=>rfl
 |k+1,w=>by
   rw[W.many,Q_ k];have:(w.fresh A8).1.types=w.types:=by
    unfold W.fresh;split
    ·rfl
    ·rw[Sa]
   simp only[W.tell,ziq,this,zsq,zTq];omega
def vF(h:j5 w){e:Ex}{l:List EN}(hl:A8<2 ^ 31)(hE:Z5 w.s.l.length l):Good w (w.name e A8 l).1/\(w.name e A8 l).2<(w.name e A8 l).1.s.l.length:=by
 have f5:=h.ok.five;unfold W.name;split
 ·exact⟨(Good.refl h).fails _ _,by rw[X9];simp only;omega⟩
 ·rename_i x hx;obtain⟨x1,x2⟩:=hE x (by simpa using zqq hx);split
  ·exact⟨Good.refl h,x1⟩
  ·have g:=uy hl x.vars.length h;have ht:=Q_ (A8:=A8) x.vars.length w;simp only;generalize W.many A8 x.vars.length w=w1 at g ht ⊢;split
   ·exact⟨g,by have:=g.i.ok.five;simp only;omega⟩
   ·obtain⟨c1,c2,c3⟩:=aZ g.i.ok (z0q x1 g.ext.le) (from_:=x.vars) (to:=w1.types) (by omega) g.i.ty;exact⟨g.trans ((g.i.s (w':={ w1 with s:=(w1.s.copy x.node x.vars w1.types).1 }) c1 c2 rfl rfl rfl).fails _ _),by rw[X9];exact c3⟩
structure Qo(x y:PS):Prop where
 ok:y.s.Ok
 ext:Y3 x.s y.s
 nd:(∀n∈x.nodes,n<x.s.l.length)->∀n∈y.nodes,n<y.s.l.length
def Qo.trans{x y z:PS}(h:Qo x y)(k:Qo y z):Qo x z:=⟨k.ok,h.ext.trans k.ext,λg=>k.nd (h.nd g)⟩
def ic{x:PS}(ok:x.s.Ok){lo hi:Int}{a b:Nat}(ha:a<x.s.l.length)(hb:b<x.s.l.length):Qo x (x.agree lo hi a b).1:=by obtain⟨a1,a2,-⟩:=aU ok ha hb;exact⟨a1,a2,λg n hn=>z0q (g n hn) a2.le⟩
def FY{x:PS}(ok:x.s.Ok)(hl:A8<2 ^ 31){lo hi:Int}{k many:Nat}(hk:k=7/\many=2\/k=8/\many=1)(hn:n<x.s.l.length):
 Qo x (x.made A8 lo hi n k many).1/\(∀y∈(x.made A8 lo hi n k many).2.1,y<(x.made A8 lo hi n k many).1.s.l.length)/\(x.made A8 lo hi n k many).2.2.1<(x.made A8 lo hi n k many).1.s.l.length/\((x.made A8 lo hi n k many).2.2.2=0->(x.made A8 lo hi n k many).2.1.length=many):=by
 have f5:=ok.five;unfold PS.made;obtain⟨f1,f2,f3,f4,f5',f6⟩:=FR hl many x.s ok;simp only;generalize E9.fresh A8 many x.s=q at f1 f2 f3 f4 f5' f6 ⊢;have e1:Y3 x.s q.1:=⟨f2.le,f2.mx,f4,zjq f3.symm⟩;have p1:Qo x { x with s:=q.1 }:=⟨f1,e1,λg n hn=>z0q (g n hn) e1.le⟩;split
 ·rename_i g;exact⟨p1,by simp,by have:=f1.five;simp only;omega,λh=>absurd h g⟩
 ·rename_i g;have g0:q.2.2=0:=Classical.not_not.1 g;have ql:=f6 g0;have p0:∀i,i<many->q.2.1.getD i 0<q.1.l.length:=by intro i hi;rw[z5q,z3q (by omega)];exact f5' _ (z8q (by omega))
  obtain⟨m1,m2,m3,m4,m5,m6⟩:=Gd f1 (k:=k) (x:=q.2.1.getD 0 0) (y:=q.2.1.getD (many-1) 0) (by omega) (p0 0 (by omega)) (λ_=>p0 (many-1) (by omega));generalize q.1.make k (q.2.1.getD 0 0) (q.2.1.getD (many-1) 0)=z at m1 m2 m3 m4 m5 m6 ⊢;have e2:Y3 x.s z.1:=e1.trans (m2.A7B m6);have p2:Qo x { x with s:=z.1 }:=⟨m1,e2,λg n hn=>z0q (g n hn) e2.le⟩;split
  ·rename_i gz;exact⟨p2,by simp,by have:=m1.five;simp only;omega,λh=>absurd h gz⟩
  ·have A:=ic (x:={ x with s:=z.1 }) m1 (lo:=lo) (hi:=hi) (a:=n) (b:=z.2.1) (z0q hn e2.le) m4;refine⟨p2.trans A,λy hy=>?_,z0q m4 A.ext.le,λ_=>ql⟩;exact z0q (z0q (f5' y hy) m2.le) A.ext.le
def F5.ww{p:F5}(h:p.one=true):(p.E8=7\/p.E8=9->p.D5.length=2)/\1<=p.E8/\p.E8<=9:=by
 unfold F5.one at h;split at h
 ·omega
 split at h
 ·omega
 split at h
 ·omega
 split at h
 ·omega
 split at h
 ·omega
 split at h
 ·simp only[zbq,I6]at h;exact⟨λ_=>h.1.1.1,by omega,by omega⟩
 ·cases h
theorem lJ(A8:Nat)(p:F5)(ps:List F5)(n:Nat)(ns:List Nat)(x:PS):Dk A8 (p::ps) (n::ns) x=if (BA A8 p n x).2≠0 then BA A8 p n x else Dk A8 ps ns (BA A8 p n x).1:=by rw[Dk];rfl
mutual
theorem NN{A8:Nat}(hl:A8<2 ^ 31):∀(p:F5)(nd:Nat)(x:PS),x.s.Ok->nd<x.s.l.length->p.pat=true->Qo x (BA A8 p nd x).1
 |.mk k lo hi name n s ks,nd,x,ok,hn,hp=>by
   have qg:=hp;rw[F5.lK,zbq,zIq]at qg;obtain⟨h1,h2⟩:=qg;obtain⟨KV,WQ⟩:=F5.ww h1;simp only[F5.IW,F5.U7]at KV WQ h2;rw[BA];have f5:=ok.five;split
   ·exact⟨ok,Y3.refl _,λg=>g⟩
   ·split
    ·refine⟨ok,Y3.refl _,λg m hm=>?_⟩;rcases zaq.1 hm with hm | hm
     ·exact g m hm
     ·rw[z6q.1 hm];exact hn
    ·split
     ·rename_i k7;obtain⟨a1,a2,a3,a4⟩:=FY ok hl (lo:=lo) (hi:=hi) (n:=nd) (k:=7) (many:=2) (.inl ⟨rfl,rfl⟩) hn;generalize x.made A8 lo hi nd 7 2=q at a1 a2 a3 a4 ⊢;split
      ·exact a1
      ·rename_i g;exact a1.trans (La hl ks q.2.1 q.1 a1.ok (by rw[a4 (Classical.not_not.1 g),KV (.inl k7)];exact z1q _) a2 h2)
     ·split
      ·rename_i k89;obtain⟨a1,a2,a3,a4⟩:=FY ok hl (lo:=lo) (hi:=hi) (n:=nd) (k:=8) (many:=1) (.inr ⟨rfl,rfl⟩) hn;generalize x.made A8 lo hi nd 8 1=q at a1 a2 a3 a4 ⊢;split
       ·exact a1
       ·rename_i g;have k9:k=9:=by
         rcases k89 with h | h
         ·exact absurd (.inr h) g
         ·exact h
        have q0:q.2.2.2=0:=Classical.not_not.1 λh=>g (.inl h);refine a1.trans (La hl ks _ q.1 a1.ok (by rw[ziq,a4 q0,KV (.inr k9)];exact z1q _) (λy hy=>?_) h2);rcases zaq.1 hy with hy | hy
        ·exact a2 y hy
        ·rw[z6q.1 hy];exact a3
      ·exact ic ok hn (by omega)
theorem La{A8:Nat}(hl:A8<2 ^ 31):∀(ps:List F5)(ns:List Nat)(x:PS),x.s.Ok->ps.length<=ns.length->(∀n∈ns,n<x.s.l.length)->(∀p∈ps,p.pat=true)->Qo x (Dk A8 ps ns x).1
 |[],ns,x,ok,_,_,_=>by rw[Dk];exact⟨ok,Y3.refl _,λg=>g⟩
 |p::ps,[],x,ok,J4,_,_=>by simp at J4
 |p::ps,n::ns,x,ok,J4,hn,hp=>by
   have a:=NN hl p n x ok (hn n (z4q ..)) (hp p (z4q ..));rw[lJ];by_cases g:(BA A8 p n x).2≠0
   ·rw[A9 g];exact a
   ·rw[A7 g];exact a.trans (La hl ps ns _ a.ok (by simpa using J4) (λm hm=>z0q (hn m (z2q _ hm)) a.ext.le) λq hq=>hp q (z2q _ hq))
end
end
section
def A9A{has must:Bool}{t:Ty}(h:Ve has must t=true):(t.E8≠0->t.rc)/\(must=true->t.rc):=by
 unfold Ve at h;split at h
 ·rename_i hn;refine⟨λhk=>?_,λhm=>by rw[hm]at h;cases h⟩;rw[Ty.A65]at hn;rw[hn]at hk;exact absurd rfl hk
 ·rw[zbq]at h;have:=h.2;unfold Ty.closed at this;rw[zbq]at this;exact⟨λ_=>this,λ_=>this⟩
variable {e:Ex}
def A2S(h:e.one=true):e.b_=true:=by unfold Ex.one Ex.vI Ex.vJ Ex.vK Ex.vL Ex.vM at h;simp only[zbq]at h;exact h.2.2.2.2.2.2
def Ex.lG(h:e.right=true):(e.a.E8≠0->e.a.rc)/\(e.E8=15->e.a.rc):=by have:=A2S (Ex.YX h);unfold Ex.b_ at this;rw[zbq]at this;obtain⟨h1,h2⟩:=A9A this.1;exact⟨h1,λhk=>h2 (by unfold Aa;exact decide_eq_true hk)⟩
def Ex.A1H(h:e.right=true):e.b.E8≠0->e.b.rc:=by have:=A2S (Ex.YX h);unfold Ex.b_ Ex.oV at this;simp only[zbq]at this;exact(A9A this.2.1).1
def Ex.A5i(h:e.right=true){p:F5}(hp:p∈e.J7):p.right=true:=by have:=A2S (Ex.YX h);unfold Ex.b_ Ex.oV Ex.A0h at this;simp only[zbq,zIq]at this;exact this.2.2 p hp
def Ex.bY(h:e.right=true):1<=e.E8/\e.E8<=16/\(e.D5.length:Int)=L9 e.E8 e.J7.length:=by have:=Ex.YX h;unfold Ex.one JX at this;simp only[zbq,I6]at this;exact⟨this.1.1.1.1.1,this.1.1.1.1.2,this.1.1.2⟩
def Ex.CR{i:Nat}(h:i<e.D5.length):e.kd i∈e.D5:=by unfold Ex.kd;rw[z5q,z3q h];exact z8q h
theorem Ex.ku{i:Nat}(h:i<e.D5.length):e.D5[i]=e.kd i:=by unfold Ex.kd;rw[z5q,z3q h];rfl
def Cw(R:Rec)(e:Ex):Prop:=∀(A8:Nat)(l:List EN)(w:W),A8+e.size<2 ^ 30->j5 w->Z5 w.s.l.length l->(R e A8 l w).1.s.Ok/\Y3 w.s (R e A8 l w).1.s/\(R e A8 l w).2.1<(R e A8 l w).1.s.l.length/\DD.lt (R e A8 l w).1.s.l.length (R e A8 l w).2.2
section
variable {R:Rec}{w:W}{A8:Nat}{l:List EN}
def A6L(hR:Cw R e)(hl:A8+e.size<2 ^ 30)(h:j5 w)(hE:Z5 w.s.l.length l):Good w (J2 R w e A8 l).1/\(J2 R w e A8 l).2<(J2 R w e A8 l).1.s.l.length:=by
 unfold J2;split
 ·exact⟨Good.refl h,by have:=h.ok.five;simp only;omega⟩
 ·obtain⟨a,c,d,g⟩:=hR A8 l w hl h hE;refine⟨⟨⟨a,λx hx=>z0q (h.ty x hx) c.le,⟨λx hx=>z0q (h.vs.1 x hx) c.le,h.vs.2⟩,?_⟩,c⟩,d⟩;refine A2Q.2 λk hk=>?_;rcases zaq.1 hk with hk | hk
  ·exact DD.A9y c.le k (A2Q.1 h.ks k hk)
  ·rw[z6q.1 hk];exact g
def NU(w:W)(q:W×Nat):Prop:=Good w q.1/\q.2<q.1.s.l.length
def Good.n{w w1:W}{q:W×Nat}(h:Good w w1)(k:NU w1 q):NU w q:=⟨h.trans k.1,k.2⟩
def Good.lt{w w':W}(h:Good w w'){n:Nat}(hn:n<w.s.l.length):n<w'.s.l.length:=z0q hn h.ext.le
def U4(hR:Cw R e)(hl:A8+e.size<2 ^ 30)(h:j5 w)(hE:Z5 w.s.l.length l):NU w (J2 R w e A8 l):=A6L hR hl h hE
def B16(h0:Cw R (e.kd 0))(h1:Cw R (e.kd 1))(l0:A8+(e.kd 0).size<2 ^ 30)(l1:A8+(e.kd 1).size<2 ^ 30)(h:j5 w)(hE:Z5 w.s.l.length l):NU w (MM R w e A8 l):=by obtain⟨a1,a2⟩:=U4 h0 l0 h hE;unfold MM;simp only;generalize J2 R w (e.kd 0) A8 l=a at a1 a2 ⊢;obtain⟨b1,b2⟩:=U4 h1 l1 a1.i (hE.mono a1.ext.le);generalize J2 R a.1 (e.kd 1) A8 l=b at b1 b2 ⊢;obtain⟨v1,v2⟩:=Ab b1.i (show A8<2 ^ 31 by omega);generalize b.1.fresh A8=v at v1 v2 ⊢;have t1:=Dm v1 (l:=[v.2]) (by simpa using v2);have g1:=U3 t1.i (a:=a.2) (b:=v.2) (z0q (b1.lt a2) v1.ext.le) v2 (e.kd 0);generalize (v.1.Y1 [v.2]).agree a.2 v.2 (e.kd 0)=w1 at g1 ⊢;obtain⟨n1,n2⟩:=EF g1.i (k:=8) (x:=v.2) (y:=0) (.inr (.inl rfl)) (g1.lt v2) (λh=>absurd rfl h);generalize w1.made 8 v.2 0=n at n1 n2 ⊢;have g2:=U3 n1.i (a:=b.2) (b:=n.2) (n1.lt (g1.lt (v1.lt b2))) n2 (e.kd 1);exact⟨((((a1.trans b1).trans t1).trans g1).trans n1).trans g2,g2.lt n2⟩
def eD{f a:Nat}(hl:A8<2 ^ 31)(h:j5 w)(fl:f<w.s.l.length)(al:a<w.s.l.length):NU w (TI w f a e A8):=by
 have f5:=h.ok.five;unfold TI;split
 ·exact⟨Good.refl h,by simp only;omega⟩
 split
 ·have g:=U3 h (a:=a) (b:=4) al (by omega) (e.kd 1);exact⟨g,g.lt (by omega)⟩
 split
 ·simp only
  obtain⟨v1,v2⟩:=Ab h hl;generalize w.fresh A8=v at v1 v2 ⊢;obtain⟨u1,u2⟩:=Ab v1.i hl;generalize v.1.fresh A8=u at u1 u2 ⊢;obtain⟨m1,m2⟩:=EF u1.i (k:=9) (x:=v.2) (y:=u.2) (.inr (.inr rfl)) (u1.lt v2) (λ_=>u2);generalize u.1.made 9 v.2 u.2=m at m1 m2 ⊢;have g1:=U3 m1.i (a:=f) (b:=m.2) (m1.lt (u1.lt (v1.lt fl))) m2 (e.kd 0);have g2:=U3 g1.i (a:=a) (b:=v.2) (g1.lt (m1.lt (u1.lt (v1.lt al)))) (g1.lt (m1.lt (u1.lt v2))) (e.kd 1);exact⟨(((v1.trans u1).trans m1).trans g1).trans g2,g2.lt (g1.lt (m1.lt u2))⟩
 split
 ·rename_i k9;have kn:=h.ok.Yl (h.ok.Gs fl);rw[k9]at kn;have kl:∀i,i<2->(w.s.I1 (w.s.root f)).getD i 0<w.s.l.length:=by
   intro i hi;have:i<(w.s.I1 (w.s.root f)).length:=by rw[kn];exact hi
   rw[z5q,z3q this];exact h.ok.Nn fl (z8q this)
  have g:=U3 h (a:=a) (b:=(w.s.I1 (w.s.root f)).getD 0 0) al (kl 0 (by omega)) (e.kd 1);exact⟨g,g.lt (kl 1 (by omega))⟩
 ·exact⟨(Good.refl h).fails _ _,by rw[X9];simp only;omega⟩
def B3W(h0:Cw R (e.kd 0))(h1:Cw R (e.kd 1))(l0:A8+(e.kd 0).size<2 ^ 30)(l1:A8+(e.kd 1).size<2 ^ 30)(h:j5 w)(hE:Z5 w.s.l.length l):NU w (Ru R w e A8 l):=by obtain⟨a1,a2⟩:=U4 h0 l0 h hE;unfold Ru;simp only;generalize J2 R w (e.kd 0) A8 l=f at a1 a2 ⊢;obtain⟨b1,b2⟩:=U4 h1 l1 a1.i (hE.mono a1.ext.le);generalize J2 R f.1 (e.kd 1) A8 l=a at b1 b2 ⊢;exact(a1.trans b1).n (eD (by omega) b1.i (b1.lt a2) b2)
def B4H(h0:Cw R (e.kd 0))(h1:Cw R (e.kd 1))(l0:A8+1+(e.kd 0).size<2 ^ 30)(l1:A8+(e.kd 1).size<2 ^ 30)(ha:e.a.E8≠0->e.a.rc)(h:j5 w)(hE:Z5 w.s.l.length l):NU w (Ry R w e A8 l):=by
 unfold Ry;split
 ·rename_i k;obtain⟨a1,a2⟩:=U4 h0 (show A8+(e.kd 0).size<2 ^ 30 by omega) h hE;simp only;generalize J2 R w (e.kd 0) A8 l=a at a1 a2 ⊢;obtain⟨n1,n2⟩:=Qf a1.i (ha k);generalize a.1.put e.a=n at n1 n2 ⊢;have g:=U3 n1.i (a:=a.2) (b:=n.2) (n1.lt a2) n2 (e.kd 0);have ag:=(a1.trans n1).trans g;exact ag.n (U4 h1 l1 g.i ((hE.mono ag.ext.le).app (Z5.one (g.lt n2))))
 split
 ·obtain⟨a1,a2⟩:=U4 h0 (A8:=A8+1) (by omega) h hE;simp only;generalize J2 R w (e.kd 0) (A8+1) l=a at a1 a2 ⊢;split
  ·exact a1.n (U4 h1 l1 a1.i ((hE.mono a1.ext.le).app (Z5.one a2)))
  ·obtain⟨c1,c2⟩:=BS a1.i (n:=a.2) (A8:=A8) a2;generalize a.1.above a.2 A8=c at c1 c2 ⊢;have v:=Hz c1 c2;have av:=a1.trans v;exact av.n (U4 h1 l1 v.i ((hE.mono av.ext.le).app λx hx=>by rw[z6q.1 hx];exact⟨v.lt a2,c2.1⟩))
 ·obtain⟨a1,a2⟩:=U4 h0 (show A8+(e.kd 0).size<2 ^ 30 by omega) h hE;exact a1.n (U4 h1 l1 a1.i ((hE.mono a1.ext.le).app (Z5.one a2)))
def B41(h0:Cw R (e.kd 0))(h1:Cw R (e.kd 1))(l0:A8+1+(e.kd 0).size<2 ^ 30)(l1:A8+(e.kd 1).size<2 ^ 30)(ha:e.a.E8≠0->e.a.rc)(hb:e.b.E8≠0->e.b.rc)(h:j5 w)(hE:Z5 w.s.l.length l):NU w (SA R w e A8 l):=by
 unfold SA;simp only;obtain⟨p1,p2⟩:=RF h (A8:=A8+1) ha (by omega);generalize w.Y0 e.a (A8+1)=p at p1 p2 ⊢;obtain⟨r1,r2⟩:=RF p1.i (A8:=A8+1) hb (by omega);generalize p.1.Y0 e.b (A8+1)=r at r1 r2 ⊢;obtain⟨f1,f2⟩:=EF r1.i (k:=9) (x:=p.2) (y:=r.2) (.inr (.inr rfl)) (r1.lt p2) (λ_=>r2);generalize r.1.made 9 p.2 r.2=f at f1 f2 ⊢;have pf:=(p1.trans r1).trans f1;obtain⟨b1,b2⟩:=U4 h0 (A8:=A8+1) (l:=l++[⟨e.name,f.2,[]⟩,⟨e.arg,p.2,[]⟩]) (by omega) f1.i ((hE.mono pf.ext.le).app λx hx=>by
  simp only[zeq,znq,or_false]at hx;rcases hx with rfl | rfl
  ·exact⟨f2,by simp⟩
  ·exact⟨f1.lt (r1.lt p2),by simp⟩)
 generalize J2 R f.1 (e.kd 0) (A8+1) (l++[⟨e.name,f.2,[]⟩,⟨e.arg,p.2,[]⟩])=b at b1 b2 ⊢;have g:=U3 b1.i (a:=b.2) (b:=r.2) b2 (b1.lt (f1.lt r2)) (e.kd 0);generalize b.1.agree b.2 r.2 (e.kd 0)=w1 at g ⊢;have pg:=(pf.trans b1).trans g;have fl:=g.lt (b1.lt f2);split
 ·exact pg.n (U4 h1 l1 g.i ((hE.mono pg.ext.le).app (Z5.one fl)))
 ·obtain⟨c1,c2⟩:=BS g.i (n:=f.2) (A8:=A8) fl;generalize w1.above f.2 A8=c at c1 c2 ⊢;have v:=Hz c1 c2;have av:=pg.trans v;exact av.n (U4 h1 l1 v.i ((hE.mono av.ext.le).app λx hx=>by rw[z6q.1 hx];exact⟨v.lt fl,c2.1⟩))
def B15(h0:Cw R (e.kd 0))(h1:Cw R (e.kd 1))(h2:Cw R (e.kd 2))(l0:A8+(e.kd 0).size<2 ^ 30)(l1:A8+(e.kd 1).size<2 ^ 30)(l2:A8+(e.kd 2).size<2 ^ 30)(h:j5 w)(hE:Z5 w.s.l.length l):NU w (ML R w e A8 l):=by unfold ML;simp only;obtain⟨c1,c2⟩:=U4 h0 l0 h hE;generalize J2 R w (e.kd 0) A8 l=c at c1 c2 ⊢;have g0:=U3 c1.i (a:=c.2) (b:=1) c2 (by have:=c1.i.ok.five;omega) (e.kd 0);have cg:=c1.trans g0;generalize c.1.agree c.2 1 (e.kd 0)=w0 at g0 cg ⊢;obtain⟨a1,a2⟩:=U4 h1 l1 g0.i (hE.mono cg.ext.le);generalize J2 R w0 (e.kd 1) A8 l=a at a1 a2 ⊢;have ca:=cg.trans a1;obtain⟨b1,b2⟩:=U4 h2 l2 a1.i (hE.mono ca.ext.le);generalize J2 R a.1 (e.kd 2) A8 l=b at b1 b2 ⊢;obtain⟨v1,v2⟩:=Ab b1.i (show A8<2 ^ 31 by omega);generalize b.1.fresh A8=v at v1 v2 ⊢;have t1:=Dm v1 (l:=[v.2]) (by simpa using v2);have g1:=U3 t1.i (a:=a.2) (b:=v.2) (v1.lt (b1.lt a2)) v2 (e.kd 1);have g2:=U3 g1.i (a:=b.2) (b:=v.2) (g1.lt (v1.lt b2)) (g1.lt v2) (e.kd 2);exact⟨(((ca.trans b1).trans t1).trans g1).trans g2,g2.lt (g1.lt v2)⟩
def Tc{r v:Nat}(hl:A8<2 ^ 31):∀(qs:List (F5×Ex))(w:W),(∀a∈qs,Cw R a.2/\A8+a.2.size<2 ^ 30/\a.1.pat=true)->j5 w->Z5 w.s.l.length l->v<w.s.l.length->r<w.s.l.length->NU w (Ci R A8 l v r qs w)
 |[],w,_,h,hE,hv,hr=>⟨Good.refl h,hr⟩
 | (p,k)::qs,w,ha,h,hE,hv,hr=>by
   obtain⟨h1,h2,h3⟩:=ha _ (z4q ..);rw[Ci];split
   ·exact⟨Good.refl h,by have:=h.ok.five;simp only;omega⟩
   ·simp only
    have P:=NN hl p v ⟨w.s,[],[],P7⟩ h.ok hv h3;generalize BA A8 p v ⟨w.s,[],[],P7⟩=q at P ⊢;have g0:Good w ({ w with s:=q.1.s }:W):=h.s (w':={ w with s:=q.1.s }) P.ok P.ext rfl rfl rfl;have g1:=g0.fails q.2 q.1.bad;have hs:(({ w with s:=q.1.s }:W).fails q.2 q.1.bad).s=q.1.s:=X9 ..;generalize ({ w with s:=q.1.s }:W).fails q.2 q.1.bad=w1 at g1 hs ⊢;have Io:Z5 w1.s.l.length (l++if q.2≠0 then[]else List.zipWith (λs n=>(⟨s,n,[]⟩:EN)) q.1.names q.1.nodes):=by
     refine(hE.mono g1.ext.le).app ?_;split
     ·intro x hx;cases hx
     ·intro x hx;obtain⟨j,hj,rfl⟩:=zlq.1 hx;simp only[zAq]at hj;rw[zyq];exact⟨by rw[hs];exact P.nd (by simp) _ (z8q (by omega)),by simp⟩
    obtain⟨b1,b2⟩:=U4 h1 h2 g1.i Io;generalize J2 R w1 k A8 (l++if q.2≠0 then[]else List.zipWith (λs n=>(⟨s,n,[]⟩:EN)) q.1.names q.1.nodes)=b at b1 b2 ⊢;have g2:=U3 b1.i (a:=b.2) (b:=r) b2 (b1.lt (g1.lt hr)) k;have gg:=(g1.trans b1).trans g2;exact gg.n (Tc hl qs _ (λa h=>ha a (z2q _ h)) g2.i (hE.mono gg.ext.le) (gg.lt hv) (gg.lt hr))
def B07(h0:Cw R (e.kd 0))(hk:∀k∈e.D5,Cw R k/\A8+k.size<2 ^ 30)(hp:∀p∈e.J7,p.pat=true)(l0:A8+(e.kd 0).size<2 ^ 30)(h:j5 w)(hE:Z5 w.s.l.length l):NU w (Ip R w e A8 l):=by unfold Ip;simp only;obtain⟨a1,a2⟩:=U4 h0 l0 h hE;generalize J2 R w (e.kd 0) A8 l=a at a1 a2 ⊢;obtain⟨v1,v2⟩:=Ab a1.i (show A8<2 ^ 31 by omega);generalize a.1.fresh A8=v at v1 v2 ⊢;have g:=U3 v1.i (a:=a.2) (b:=v.2) (v1.lt a2) v2 (e.kd 0);generalize v.1.agree a.2 v.2 (e.kd 0)=w0 at g ⊢;obtain⟨r1,r2⟩:=Ab g.i (show A8<2 ^ 31 by omega);generalize w0.fresh A8=r at r1 r2 ⊢;have t:=Dm r1 (l:=[v.2,r.2]) (by intro x hx;simp only[zeq,znq,or_false]at hx;rcases hx with rfl | rfl;exact r1.lt (g.lt v2);exact r2);have gg:=(((a1.trans v1).trans g).trans t);refine gg.n (Tc (by omega) _ _ (λx hx=>?_) t.i (hE.mono gg.ext.le) (t.lt (g.lt v2)) r2);have:=zmq hx;obtain⟨k1,k2⟩:=hk x.2 (zGq this.2);exact⟨k1,k2,hp x.1 this.1⟩
def A0i{want:Nat}(hw:want<5):∀(ks:List Ex)(w:W),(∀k∈ks,Cw R k/\A8+k.size<2 ^ 30)->j5 w->Z5 w.s.l.length l->Good w (FE R A8 l want ks w)
 |[],w,_,h,_=>Good.refl h
 |k::ks,w,hk,h,hE=>by obtain⟨h1,h2⟩:=hk k (z4q ..);obtain⟨a1,a2⟩:=U4 h1 h2 h hE;rw[FE];have g:=U3 a1.i (a:=(J2 R w k A8 l).2) (b:=want) a2 (by have:=a1.i.ok.five;omega) k;have ag:=a1.trans g;exact ag.trans (A0i hw ks _ (λx hx=>hk x (z2q _ hx)) g.i (hE.mono ag.ext.le))
def B1Y(hr:e.right=true)(hk:∀k∈e.D5,Cw R k)(hl:A8+e.size<2 ^ 30)(h:j5 w)(hE:Z5 w.s.l.length l):NU w (R7 R w e A8 l):=by
 obtain⟨k1,k2,k3⟩:=Ex.bY hr;have f5:=h.ok.five;have sz:∀k∈e.D5,A8+1+k.size<2 ^ 30:=λk hk=>by have:=Ex.CG hk;omega
 have kd:∀i,i<e.D5.length->Cw R (e.kd i)/\A8+1+(e.kd i).size<2 ^ 30/\A8+(e.kd i).size<2 ^ 30:=λi hi=>by have m:=Ex.CR hi;have:=sz _ m;exact⟨hk _ m,this,by omega⟩
 have na:=Ex.lG hr;have nb:=Ex.A1H hr;have lb:A8<2 ^ 31:=by omega
 unfold R7;by_cases g:e.E8=1
 ·rw[A9 g];exact vF h lb hE
 rw[A7 g];by_cases g:e.E8=2\/e.E8=3\/e.E8=4\/e.E8=5
 ·rw[A9 g];exact⟨Good.refl h,by simp only;omega⟩
 rw[A7 g];by_cases g:e.E8=6
 ·rw[A9 g];have n2:e.D5.length=2:=by simp[g,L9]at k3;omega
  obtain⟨x1,x2,x3⟩:=kd 0 (by omega);obtain⟨y1,y2,y3⟩:=kd 1 (by omega);obtain⟨a1,a2⟩:=U4 x1 x3 h hE;simp only;generalize J2 R w (e.kd 0) A8 l=a at a1 a2 ⊢;obtain⟨b1,b2⟩:=U4 y1 y3 a1.i (hE.mono a1.ext.le);generalize J2 R a.1 (e.kd 1) A8 l=b at b1 b2 ⊢;exact(a1.trans b1).n (EF b1.i (k:=7) (.inl rfl) (b1.lt a2) (λ_=>b2))
 rw[A7 g];by_cases g:e.E8=7
 ·rw[A9 g];obtain⟨v1,v2⟩:=Ab h lb;generalize w.fresh A8=v at v1 v2 ⊢;have t1:=Dm v1 (l:=[v.2]) (by simpa using v2);exact t1.n (EF t1.i (k:=8) (.inr (.inl rfl)) v2 (λh=>absurd rfl h))
 rw[A7 g];by_cases g:e.E8=8
 ·rw[A9 g];have n2:e.D5.length=2:=by simp[g,L9]at k3;omega
  obtain⟨x1,x2,x3⟩:=kd 0 (by omega);obtain⟨y1,y2,y3⟩:=kd 1 (by omega);exact B16 x1 y1 x3 y3 h hE
 rw[A7 g];by_cases g:e.E8=9
 ·rw[A9 g];have n1:e.D5.length=1:=by simp[g,L9]at k3;omega
  obtain⟨x1,x2,x3⟩:=kd 0 (by omega);obtain⟨p1,p2⟩:=RF h (A8:=A8) na.1 lb;simp only;generalize w.Y0 e.a A8=p at p1 p2 ⊢;obtain⟨b1,b2⟩:=U4 x1 x3 p1.i ((hE.mono p1.ext.le).app (Z5.one (s:=e.name) p2));exact(p1.trans b1).n (EF b1.i (k:=9) (.inr (.inr rfl)) (b1.lt p2) (λ_=>b2))
 rw[A7 g];by_cases g:e.E8=10
 ·rw[A9 g];have n2:e.D5.length=2:=by simp[g,L9]at k3;omega
  obtain⟨x1,x2,x3⟩:=kd 0 (by omega);obtain⟨y1,y2,y3⟩:=kd 1 (by omega);exact B3W x1 y1 x3 y3 h hE
 rw[A7 g];by_cases g:e.E8=11
 ·rw[A9 g];have n2:e.D5.length=2:=by simp[g,L9]at k3;omega
  obtain⟨x1,x2,x3⟩:=kd 0 (by omega);obtain⟨y1,y2,y3⟩:=kd 1 (by omega);exact B4H x1 y1 x2 y3 na.1 h hE
 rw[A7 g];by_cases g:e.E8=12
 ·rw[A9 g];have n2:e.D5.length=2:=by simp[g,L9]at k3;omega
  obtain⟨x1,x2,x3⟩:=kd 0 (by omega);obtain⟨y1,y2,y3⟩:=kd 1 (by omega);exact B41 x1 y1 x2 y3 na.1 nb h hE
 rw[A7 g];by_cases g:e.E8=13
 ·rw[A9 g];have n3:e.D5.length=3:=by simp[g,L9]at k3;omega
  obtain⟨x1,x2,x3⟩:=kd 0 (by omega);obtain⟨y1,y2,y3⟩:=kd 1 (by omega);obtain⟨z1,z2,z3⟩:=kd 2 (by omega);exact B15 x1 y1 z1 x3 y3 z3 h hE
 rw[A7 g];by_cases g:e.E8=14
 ·rw[A9 g];have n1:0<e.D5.length:=by simp[g,L9]at k3;omega
  obtain⟨x1,x2,x3⟩:=kd 0 n1;refine B07 x1 (λk FU=>⟨hk k FU,by have:=sz k FU;omega⟩) (λp hp=>?_) x3 h hE;have:=Ex.A5i hr hp;unfold F5.right at this;rw[zbq]at this;exact this.1
 rw[A7 g];by_cases g:e.E8=15
 ·rw[A9 g];have n1:e.D5.length=1:=by simp[g,L9]at k3;omega
  obtain⟨x1,x2,x3⟩:=kd 0 (by omega);obtain⟨a1,a2⟩:=U4 x1 x3 h hE;simp only;generalize J2 R w (e.kd 0) A8 l=a at a1 a2 ⊢;obtain⟨n1,n2⟩:=Qf a1.i (na.2 g);generalize a.1.put e.a=n at n1 n2 ⊢;have g:=U3 n1.i (a:=a.2) (b:=n.2) (n1.lt a2) n2 (e.kd 0);exact⟨(a1.trans n1).trans g,g.lt n2⟩
 ·rw[A7 g];have g:=A0i (R:=R) (A8:=A8) (l:=l) (want:=if e.op=7 then 2 else 0) (by split<;>omega) e.D5 w (λk FU=>⟨hk k FU,by have:=sz k FU;omega⟩) h hE;exact⟨g,g.lt (by simp only;split<;>omega)⟩
end
def LF:∀(f:Nat)(e:Ex),e.right=true->Cw (K9 f) e
 |0,e,hr=>λA8 l w hl h hE=>⟨h.ok,Y3.refl _,by have:=h.ok.five;simp only[K9];omega,by simp only[K9,DD.lt,DD.ZN];have:=h.ok.five;exact⟨by omega,by simp,⟨by simp,by simp⟩,trivial⟩⟩
 |f+1,e,hr=>λA8 l w hl h hE=>by have h0:j5 { w with types:=[],vars:=[],D5:=[] }:=⟨h.ok,by simp,⟨by simp,by simp⟩,trivial⟩;obtain⟨a1,a2⟩:=B1Y (R:=K9 f) (A8:=A8) (l:=l) hr (λk hk=>LF f k (Ex.Bf hr hk)) hl h0 hE;rw[K9];simp only;generalize R7 (K9 f) { w with types:=[],vars:=[],D5:=[] } e A8 l=q at a1 a2 ⊢;exact⟨a1.i.ok,a1.ext,a2,by rw[DD.lt];exact⟨a2,a1.i.ty,a1.i.vs,a1.i.ks⟩⟩
end
def A0t{m:Nat}:∀(ts:List NT)(k:Nat),k<=m+1->k<=NT.Le m ts k
 |[],k,_=>by rw[NT.Le];exact z1q _
 |t::ts,k,h=>by rw[NT.Le];refine z7q ?_ (A0t ts _ (y0q ..));omega
def B3s(m:Nat)(t:NT):1<=t.Bu m:=by cases t;rw[NT.Bu];exact A0t _ _ (by omega)
def B5k{m:Nat}(t:NT):t.Bu m<=m->t.ty.size=t.Bu m:=by
 induction t using NT.ind with
 |h r k ts ih=>
   intro h;rw[NT.Bu]at h ⊢;rw[NT.ty,NT.wE,Ty.size_eq,Ty.U7];have key:∀(us:List NT),(∀u∈us,u∈ts)->∀c,c<=m+1->NT.Le m us c<=m->NT.Le m us c=c+((us.map NT.ty).map Ty.size).sum:=by
    intro us;induction us with
    |nil=>intro _ c _ _;simp[NT.Le]
    |cons u us ihu=>
      intro hs c hc J4;rw[NT.Le]at J4 ⊢;have g:=A0t us (min (c+u.Bu m) (m+1)) (y0q ..);have hm:c+u.Bu m<=m:=by omega
      have e:min (c+u.Bu m) (m+1)=c+u.Bu m:=by omega
      rw[e]at J4 ⊢;rw[ihu (λw hw=>hs w (z2q _ hw)) _ (by omega) J4,zdq,zdq,zgq,ih u (hs u (z4q ..)) (by omega)];omega
   exact(key ts (λu hu=>hu) 1 (by omega) h).symm
namespace W
noncomputable def rd(w:W)(n:Nat):W:=({ w with s:=(w.s.read n).1 }:W).fails (w.s.read n).2.2 P7
end W
def lS{S:E9}(ok:S.Ok)(n:Nat):(S.read n).1.Ok/\(S.read n).1.l=S.l/\(S.read n).1.J8=S.J8/\S.cnt<=(S.read n).1.cnt/\((S.read n).2.2=0->S.cnt+1<=(S.read n).1.cnt/\(S.read n).2.1.size<=65536/\(S.read n).2.1=(S.K5 n).ty):=by
 have h1:=ok.cm;have h2:=ok.mm;unfold E9.read;split
 ·exact⟨ok,rfl,rfl,z1q _,λh=>by simp at h⟩
 ·rename_i g;have p:=B3s (S.mx-S.cnt) (S.K5 n);refine⟨⟨λk hk=>?_,ok.base,?_,?_,ok.mm,ok.ki⟩,rfl,rfl,by simp,λ_=>⟨by simp only;omega,?_,rfl⟩⟩
  ·obtain⟨t,ht⟩:=ok.wf k hk;exact⟨t,ht.like (show Y6 S { S with cnt:=S.cnt+(S.K5 n).Bu (S.mx-S.cnt) }from Y6.refl S)⟩
  ·have:=ok.lc;simp only;omega
  ·simp only;omega
  ·simp only
   rw[B5k (m:=S.mx-S.cnt) _ (y7q.1 g)];omega
def oo{w:W}(ok:w.s.Ok)(n:Nat):(w.rd n).s.Ok/\(w.rd n).s.l=w.s.l/\w.s.cnt<=(w.rd n).s.cnt/\((w.rd n).err=0->w.err=0/\(w.s.read n).2.2=0/\w.s.cnt+1<=(w.rd n).s.cnt):=by
 obtain⟨r1,r2,r3,r4,r5⟩:=lS ok n;unfold W.rd;rw[X9];refine⟨r1,r2,r4,λh=>?_⟩;unfold W.fails at h;split at h
 ·rename_i g;exact absurd h g.2
 ·rename_i g;have h0:w.err=0:=h;have e0:(w.s.read n).2.2=0:=Classical.not_not.1 λh=>g ⟨h0,h⟩;exact⟨h0,e0,(r5 e0).1⟩
mutual
def DD.cnt:DD->Nat
 |.mk _ _ _ ks=>1+DD.EL ks
def DD.EL:List DD->Nat
 |[]=>0
 |k::ks=>k.cnt+DD.EL ks
end
def mO:∀ks:List DD,ks.length<=DD.EL ks
 |[]=>z1q _
 |k::ks=>by
   have:=mO ks;have:1<=k.cnt:=by cases k;rw[DD.cnt];omega
   rw[DD.EL,zsq];omega
structure jG(w w':W):Prop where
 ok:w'.s.Ok
 l:w'.s.l=w.s.l
 cnt:w.s.cnt<=w'.s.cnt
def jG.trans{a b c:W}(h:jG a b)(k:jG b c):jG a c:=⟨k.ok,k.l.trans h.l,z7q h.cnt k.cnt⟩
mutual
theorem fT:∀(d:DD)(w:W),w.s.Ok->jG w (AR d w)/\((AR d w).err=0->w.err=0/\w.s.cnt+d.cnt<=(AR d w).s.cnt)
 |.mk n ts vs ks,w,ok=>by
   rw[AR,DD.cnt];split
   ·rename_i g;exact⟨⟨ok,rfl,z1q _⟩,λh=>absurd h g⟩
   ·obtain⟨a1,a2,a3,a4⟩:=oo ok n;have e:(({ w with s:=(w.s.read n).1 }:W).fails (w.s.read n).2.2 P7)=w.rd n:=rfl;rw[e];obtain⟨c1,c2⟩:=YT ks (w.rd n) a1;refine⟨(⟨a1,a2,a3⟩:jG w (w.rd n)).trans c1,λh=>?_⟩;obtain⟨d1,d2⟩:=c2 h;obtain⟨f1,f2,f3⟩:=a4 d1;exact⟨f1,by omega⟩
theorem YT:∀(ks:List DD)(w:W),w.s.Ok->jG w (LY ks w)/\((LY ks w).err=0->w.err=0/\w.s.cnt+DD.EL ks<=(LY ks w).s.cnt)
 |[],w,ok=>by rw[LY,DD.EL];exact⟨⟨ok,rfl,z1q _⟩,λh=>⟨h,z1q _⟩⟩
 |k::ks,w,ok=>by rw[LY,DD.EL];obtain⟨a1,a2⟩:=fT k w ok;obtain⟨c1,c2⟩:=YT ks _ a1.ok;refine⟨a1.trans c1,λh=>?_⟩;obtain⟨d1,d2⟩:=c2 h;obtain⟨e1,e2⟩:=a2 d1;exact⟨e1,by omega⟩
end
inductive WU:K8->Prop where
 |mk (d:K8):(∀t∈d.types,t.size<=65536)->d.types.length<=70000->d.vars.length<2 ^ 29->d.D5.length<=70000->(∀k∈d.D5,WU k)->WU d
def oz:∀(ts:List Nat)(w:W),w.s.Ok->jG w (Ar ts w).1/\((Ar ts w).1.err=0->w.err=0/\w.s.cnt+(Ar ts w).2.length<=(Ar ts w).1.s.cnt/\∀t∈(Ar ts w).2,t.size<=65536)
 |[],w,ok=>⟨⟨ok,rfl,z1q _⟩,λh=>⟨h,z1q _,by simp[Ar]⟩⟩
 |n::ts,w,ok=>by
   rw[Ar];split
   ·rename_i g;exact⟨⟨ok,rfl,z1q _⟩,λh=>absurd h g⟩
   ·obtain⟨a1,a2,a3,a4⟩:=oo ok n;have e:(({ w with s:=(w.s.read n).1 }:W).fails (w.s.read n).2.2 P7)=w.rd n:=rfl;rw[e];obtain⟨c1,c2⟩:=oz ts (w.rd n) a1;refine⟨(⟨a1,a2,a3⟩:jG w (w.rd n)).trans c1,λh=>?_⟩;obtain⟨d1,d2,d3⟩:=c2 h;obtain⟨f1,f2,f3⟩:=a4 d1;refine⟨f1,by simp only[zsq];omega,λt ht=>?_⟩;rcases zeq.1 ht with rfl | ht
    ·exact((lS ok n).2.2.2.2 f2).2.1
    ·exact d3 t ht
mutual
theorem A0p:∀(d:DD)(w:W)(n:Nat),w.s.Ok->DD.lt n d->d.cnt<=70000->jG w (BM d w).1/\(w.err≠0->(BM d w).1=w)/\((BM d w).1.err=0->w.err=0/\WU (BM d w).2)
 |.mk m ts vs ks,w,n,ok,hl,hc=>by
   rw[BM];rw[DD.lt]at hl;rw[DD.cnt]at hc;obtain⟨a1,a2⟩:=oz ts w ok;obtain⟨c1,c0,c2⟩:=A7o ks (Ar ts w).1 n a1.ok hl.2.2.2 (by omega);refine⟨a1.trans c1,λh=>?_,λh=>?_⟩
   ·have e:(Ar ts w).1=w:=by
     cases ts with
     |nil=>rfl
     |cons x ts=>rw[Ar,A9 h]
    simp only;rw[e];rw[e]at c0;exact c0 h
   ·obtain⟨d1,d2⟩:=c2 h;obtain⟨e1,e2,e3⟩:=a2 d1;have:=a1.ok.cm;have:=a1.ok.mm;have:=mO ks;exact⟨e1,.mk _ e3 (by simp only[K8.A0v];omega) (by simp only[K8.A94,zuq];exact hl.2.2.1.2) (by simp only[K8.U7];omega) d2.2⟩
theorem A7o:∀(ks:List DD)(w:W)(n:Nat),w.s.Ok->DD.ZN n ks->DD.EL ks<=70000->jG w (C_ ks w).1/\(w.err≠0->(C_ ks w).1=w)/\((C_ ks w).1.err=0->w.err=0/\(C_ ks w).2.length<=ks.length/\∀k∈(C_ ks w).2,WU k)
 |[],w,n,ok,_,_=>⟨⟨ok,rfl,z1q _⟩,λ_=>rfl,λh=>⟨h,z1q _,by simp[C_]⟩⟩
 |k::ks,w,n,ok,hl,hc=>by
   rw[C_];rw[DD.ZN]at hl;rw[DD.EL]at hc;split
   ·rename_i g;exact⟨⟨ok,rfl,z1q _⟩,λ_=>rfl,λh=>absurd h g⟩
   ·rename_i g;obtain⟨a1,a0,a2⟩:=A0p k w n ok hl.1 (by omega);obtain⟨c1,c0,c2⟩:=A7o ks (BM k w).1 n a1.ok hl.2 (by omega);refine⟨a1.trans c1,λh=>absurd h g,λh=>?_⟩;obtain⟨d1,d2,d3⟩:=c2 h;obtain⟨e1,e2⟩:=a2 d1;refine⟨e1,by simp only[zsq];omega,λx hx=>?_⟩;rcases zeq.1 hx with rfl | hx
    ·exact e2
    ·exact d3 x hx
end
section
mutual
def NT.dn:NT->Nat
 |.mk _ k ts=>(if k=5 then 1 else 0)+NT.EY ts
def NT.EY:List NT->Nat
 |[]=>0
 |t::ts=>t.dn+NT.EY ts
end
noncomputable def E9.dn(S:E9)(n:Nat):Nat:=(S.K5 n).dn
noncomputable def E9.AX(S:E9):Nat:=S.uv+(S.mx-S.cnt)
variable (t:NT)
theorem NT.A49:t.dn=(if t.k=5 then 1 else 0)+NT.EY t.D5:=by cases t;rw[NT.dn];rfl
def A5F:∀{ts:List NT},(∀t∈ts,t.dn=0)->NT.EY ts=0
 |[],_=>by rw[NT.EY]
 |t::ts,h=>by rw[NT.EY,h t (z4q ..),A5F λu hu=>h u (z2q _ hu)]
def A9i{g:NT->NT}:∀{ts:List NT},(∀t∈ts,(g t).dn=t.dn)->NT.EY (ts.map g)=NT.EY ts
 |[],_=>by rw[zDq]
 |t::ts,h=>by rw[zdq,NT.EY,NT.EY,h t (z4q ..),A9i λu hu=>h u (z2q _ hu)]
variable {S:E9}
def B6l(ok:S.Ok)(t:NT):∀n,U9 S n t->4∉t.all->t.dn=0:=by
 induction t using NT.ind with
 |h q k ts ih=>
   intro n h h4;obtain⟨d,d1,d2,d3,d4,d5⟩:=h.nd;simp only[NT.JK,NT.VV,NT.U7]at d1 d3 d4 d5;rw[NT.dn,A7,A5F]
   ·intro t ht;obtain⟨i,hi,rfl⟩:=zJq ht;exact ih _ ht _ (d5 i (by omega) hi) λhx=>h4 (NT.CF.2 (.inr ⟨_,ht,hx⟩))
   ·intro h5;have:=(ok.ki _ d d1).2.2.2.2 (by omega);exact h4 (NT.CF.2 (.inl (by simp only[NT.JK];omega)))
variable {n:Nat}
def E9.Ok.dn0(ok:S.Ok)(hn:n<S.l.length)(h:4∉S.roots n):S.dn n=0 :=B6l ok _ n (ok.K5 hn) λg=>h ((ok.DW hn).2 g)
def E9.Ok.dn6(ok:S.Ok)(hn:n<S.l.length)(h:S.F9 (S.root n)=6):S.K5 n=.mk (S.root n) 6 []:=by obtain⟨d,d1,d2,d3,d4,d5⟩:=(ok.K5 hn).nd;have e:S.root n=(S.K5 n).r:=rfl;have k:=(ok.ki _ d d1).1;rw[e,DU d1]at h;rw[h]at k d3;have:(S.K5 n).D5=[]:=z9q.1 (by rw[<- d4,k];rfl);rw[e];generalize S.K5 n=t at this d3 ⊢;cases t;simp only[NT.VV,NT.U7,NT.JK]at this d3 ⊢;rw[this,<- d3]
def B6R(ok:S.Ok){r:Nat}{u:NT}(h6:S.F9 r=6)(hu:u.dn=0)(t:NT):∀n,U9 S n t->(NT.A0l r u t).dn=t.dn:=by
 induction t using NT.ind with
 |h q k ts ih=>
   intro n h;rw[NT.A0l];split
   ·rename_i e;have hn:=h.lt;have:=ok.dn6 hn (by rw[h.Hw];simp only[NT.JK];rw[e];exact h6);rw[h.eq]at this;rw[this,hu];simp[NT.dn,NT.EY]
   ·obtain⟨d,d1,d2,d3,d4,d5⟩:=h.nd;simp only[NT.JK,NT.VV,NT.U7]at d1 d3 d4 d5;rw[NT.dn,NT.dn,A0m,A9i];intro t ht;obtain⟨i,hi,rfl⟩:=zJq ht;exact ih _ ht _ (d5 i (by omega) hi)
def AP(S T:E9):Prop:=∀n,n<S.l.length->T.dn n=S.dn n
theorem AP.refl(S:E9):AP S S:=λn _=>rfl
def AP.trans{T U:E9}(le:S.l.length<=T.l.length)(h:AP S T)(k:AP T U):AP S U:=λn hn=>(k n (by omega)).trans (h n hn)
def AP.like{T:E9}(ok:S.Ok)(L:Y6 S T):AP S T:=λn hn=>by unfold E9.dn;rw[((ok.K5 hn).like L).eq]
def AP.link(ok:S.Ok){v:Nat}(hv:v<S.l.length)(hn:n<S.l.length)(h0:S.dn n=0):AP S (S.link v n).1:=by
 unfold E9.link;split
 ·exact AP.refl S
 ·rename_i h;split
  ·exact .like ok (Y6.tick S)
  ·rename_i hw;have h6:S.F9 (S.root v)=6:=Classical.not_not.1 λg=>h (.inl g);obtain⟨d,d1,d2,-,-,d5,-⟩:=ok.nd hv;have vH:=UA ok hv hn h6 hw;refine AP.trans (T:=S.tick.BF (S.root v) (S.root n)) (by simp[E9.BF,E9.tick]) (λx hx=>?_) (.like vH (Y6.lower _ _ _));have:U9 (S.tick.BF (S.root v) (S.root n)) x (NT.A0l (S.root v) (S.K5 n) (S.K5 x)):=U9.link (S:=S.tick) d1 d2 (ok.K5 hn).self.tick (λhx=>hw ((ok.DW hn).2 hx)) _ x (ok.K5 hx).tick;unfold E9.dn;rw[this.eq];exact B6R ok h6 h0 _ x (ok.K5 hx)
def A77(S:E9)(d:Nd):(S.add d).uv=S.uv+if Ms d then 1 else 0:=by unfold E9.uv E9.add;rw[List.countP_append,List.countP_singleton]
def A9E(ok:S.Ok)(A8:Nat):(S.var A8).1.AX<=S.AX:=by
 unfold E9.var;split
 ·exact z1q _
 ·have:=ok.cm;simp only[E9.AX,A77,Ms];simp only[E9.add];simp;omega
def B6S(ok:S.Ok)(k A8:Nat)(l:List Nat)(hk:k≠6)(h:S.cnt<S.mx):(S.add ⟨k,A8,none,l⟩).AX<S.AX:=by simp only[E9.AX,A77,Ms,beq_iff_eq,hk,zbq,false_and,G9];simp only[E9.add];omega
def A0o(ok:S.Ok)(k a b:Nat)(hk:k≠6):(S.make k a b).1.AX<=S.AX/\((S.make k a b).2.2=0->(S.make k a b).1.AX<S.AX):=by
 unfold E9.make;split
 ·exact⟨z1q _,λh=>by simp at h⟩
 ·have:=ok.cm;have:=B6S ok k 0 (if k=8 then[a]else[a,b]) hk (by omega);exact⟨zKq this,λ_=>this⟩
def vN{A8:Nat}(hl:A8<2 ^ 31):∀(k:Nat)(S:E9),S.Ok->(E9.fresh A8 k S).1.AX<=S.AX
 |0,S,ok=>z1q _
 |k+1,S,ok=>by
   rw[E9.fresh];have:=A9E ok A8;split
   ·exact z7q (vN hl k _ (Lg ok hl).1) this
   ·exact this
def A0n(ok:S.Ok){v:Nat}(hv:v<S.l.length)(hn:n<S.l.length):(S.link v n).1.AX<=S.AX/\((S.link v n).2=0->(S.link v n).1.AX<S.AX):=by
 have L:=lD ok hv hn;have a:(S.link v n).2=0->(S.link v n).1.AX<S.AX:=λh=>by have:=L.uv h;unfold E9.AX;rw[L.mx,L.cnt];omega
 refine⟨?_,a⟩;by_cases e:(S.link v n).2=0
 ·exact zKq (a e)
 ·unfold E9.link at e ⊢;split
  ·exact z1q _
  ·rename_i g;rw[A7 g]at e;split
   ·exact z1q _
   ·rename_i g;rw[A7 g]at e;simp at e
def B2k(ok:S.Ok){A8:Nat}(hl:A8<2 ^ 31):(S.var A8).1.dn (S.var A8).2.1=0:=by
 have h:=(Lg ok hl).1;unfold E9.var at h ⊢;split
 ·have:U9 S 0 (.mk 0 1 []):=.mk (.here (ok.base 0 (by omega)) rfl) (ok.base 0 (by omega)) rfl (λi a _=>by simp at a);simp only[E9.dn];rw[this.eq];simp[NT.dn,NT.EY]
 ·rename_i g;rw[A7 g]at h;simp only at h ⊢;have e:(S.add ⟨6,A8,none,[]⟩).l[S.l.length]?=some ⟨6,A8,none,[]⟩:=by simp[E9.add]
  have:U9 (S.add ⟨6,A8,none,[]⟩) S.l.length (.mk S.l.length 6 []):=.mk (.here e rfl) e rfl (λi a _=>by simp at a);simp only[E9.dn];rw[this.eq];simp[NT.dn,NT.EY]
def z_(ok:S.Ok){j:Nat}(hj:j<5):U9 S j (.mk j (j+1) []):=.mk (.here (ok.base j hj) rfl) (ok.base j hj) rfl (λi a _=>by simp at a)
def BP(ok:S.Ok){j:Nat}(hj:j<4):S.dn j=0:=by unfold E9.dn;rw[(z_ ok (by omega)).eq];simp[NT.dn,NT.EY];omega
def oI(ok:S.Ok):S.dn 4=1:=by unfold E9.dn;rw[(z_ ok (by omega)).eq];simp[NT.dn,NT.EY]
def zU{A8:Nat}(hl:A8<2 ^ 31):∀(k:Nat)(S:E9),S.Ok->∀x∈(E9.fresh A8 k S).2.1,(E9.fresh A8 k S).1.dn x=0
 |0,S,ok=>λx hx=>by simp[E9.fresh]at hx
 |k+1,S,ok=>by
   obtain⟨a1,a2,-,a4,-⟩:=Lg ok hl;rw[E9.fresh];split
   ·intro x hx;rcases zeq.1 hx with rfl | hx
    ·have:=AP.like a1 (FR hl k _ a1).2.1.like _ a4;simp only[this];exact B2k ok hl
    ·exact zU hl k _ a1 x hx
   ·intro x hx;cases hx
def A00(ok:S.Ok){k A8:Nat}{l:List Nat}(h:S.l[n]?=some ⟨k,A8,none,l⟩):S.dn n=(if k=5 then 1 else 0)+(l.map S.dn).sum:=by
 have hn:n<S.l.length:=(List.getElem?_eq_some_iff.1 h).1;have hr:X6 S n n:=.here h rfl;have u:=ok.K5 hn;have rn:=hr.eq ⟨_,u⟩;obtain⟨d,d1,d2,d3,d4,d5⟩:=u.nd;have e:(S.K5 n).r=n:=rn;rw[e,h]at d1;cases d1;unfold E9.dn;rw[NT.A49,<- d3];simp only at d4 d5 ⊢;congr 1;generalize (S.K5 n).D5=ts at d4 d5;clear h hr u rn d2 d3 e;induction l generalizing ts with
 |nil=>cases ts with | nil=>rfl | cons _ _=>simp at d4
 |cons a l ih=>
   cases ts with
   |nil=>simp at d4
   |cons t ts=>have h0:=d5 0 (by simp) (by simp);simp only[zNq]at h0;rw[NT.EY,zdq,zgq,h0.eq,ih ts (by simpa using d4) λi a b=>by have:=d5 (i+1) (by simp;omega) (by simp;omega);simpa using this]
def A2f(ok:S.Ok){k a b:Nat}(hk:k=7\/k=8\/k=9)(ha:a<S.l.length)(hb:k≠8->b<S.l.length):(S.make k a b).1.dn (S.make k a b).2.1<=S.dn a+S.dn b:=by
 obtain⟨h1,h2,-⟩:=Gd ok hk ha hb;have D:=AP.like ok h2.like;unfold E9.make at h1 D ⊢;split
 ·simp only;rw[BP ok (by omega)];omega
 ·rename_i g;rw[A7 g]at h1 D;simp only at h1 D ⊢;have e:(S.add ⟨k,0,none,if k=8 then[a]else[a,b]⟩).l[S.l.length]?=some ⟨k,0,none,if k=8 then[a]else[a,b]⟩:=by simp[E9.add]
  rw[A00 h1 e,A7 (by omega)];split
  ·rename_i h8;rw[A9 h8]at D;simp only[zdq,zDq,zgq,y4q];rw[D a ha];omega
  ·rename_i h8;rw[A7 h8]at D;simp only[zdq,zDq,zgq,y4q];rw[D a ha,D b (hb h8)];omega
end
section
variable {S:E9}
def A2g(ok:S.Ok){n:Nat}(hn:n<S.l.length):S.dn (S.root n)=S.dn n:=by unfold E9.dn;have:U9 S (S.root n) (S.K5 n):=(ok.K5 hn).self;rw[this.eq]
def Wm(ok:S.Ok){n:Nat}(hn:n<S.l.length):((S.I1 (S.root n)).map S.dn).sum<=S.dn n:=by
 obtain⟨d,d1,d2,-,d4,-⟩:=ok.nd hn;have:d=⟨d.E8,d.level,none,d.D5⟩:=by cases d;simp only at d2;rw[d2]
 rw[this]at d1;have:=A00 ok d1;rw[A2g ok hn]at this;rw[<- d4];omega
noncomputable def md(S:E9):List (Nat×Nat)->Nat
 |[]=>0
 |p::l=>S.dn p.1+S.dn p.2+md S l
def A1z(S:E9):∀a c:List (Nat×Nat),md S (a++c)=md S a+md S c
 |[],c=>by simp[md]
 |p::a,c=>by rw[zvq,md,md,A1z S a c];omega
def A1A(S:E9):∀a c:List Nat,md S (a.zip c)<=(a.map S.dn).sum+(c.map S.dn).sum
 |[],c=>by simp[md]
 |x::a,[]=>by simp[md]
 |x::a,y::c=>by have:=A1A S a c;simp only[zwq,md,zdq,zgq];omega
def aC{S T:E9}(h:AP S T):∀{l:List (Nat×Nat)},(∀q∈l,q.1<S.l.length/\q.2<S.l.length)->md T l=md S l
 |[],_=>rfl
 |p::l,hl=>by rw[md,md,h _ (hl p (z4q ..)).1,h _ (hl p (z4q ..)).2,aC h λq hq=>hl q (z2q _ hq)]
theorem B4Z(S:E9):S.tick.AX=S.AX:=rfl
structure B91(S:E9)(w:Nat)(q:E9×Option Nat×Nat):Prop where
 dn:AP S q.1
 AX:q.1.AX<=S.AX
 less:q.2.2=0->q.1.AX<S.AX
 z:∀m,q.2.2=0->q.2.1=some m->q.1.dn m=0
def A5x(ok:S.Ok){v w:Nat}(hv:v<S.l.length)(hw:w<S.l.length)(rw_:S.root w=w)(fC:w≠4):B91 S w (S.become v w):=by
 unfold E9.become;split
 ·rename_i k6;have h0:S.dn w=0:=by have:=ok.dn6 hw (by rw[rw_];exact k6);unfold E9.dn;rw[this];simp[NT.dn,NT.EY]
  have L:=A0n ok hv hw;exact⟨.link ok hv hw h0,L.1,L.2,λm _ h=>by cases h⟩
 ·rename_i k6;split
  ·rename_i h4;have h0:=ok.dn0 hw h4;have L:=A0n ok.tick (show v<S.tick.l.length from hv) (show w<S.tick.l.length from hw);have D:AP S.tick (S.tick.link v w).1:=.link ok.tick hv hw (by have:=AP.like ok (Y6.tick S) w hw;rw[this];exact h0);exact⟨AP.trans (T:=S.tick) (z1q _) (AP.like ok (Y6.tick S)) D,L.1,L.2,λm _ h=>by cases h⟩
  ·rename_i R8;have R8:4∈S.roots w:=Classical.not_not.1 R8;have D0:AP S S.tick.tick:=.like ok ((Y6.tick S).trans (Y6.tick S.tick));split
   ·exact⟨D0,z1q _,λh=>by simp at h,λm h=>by simp at h⟩
   ·have UC:=ok.tick.tick;obtain⟨f1,f2,f3,f4,f5,f6⟩:=FR (ok.A8 hv) (S.I1 w).length _ UC;have fp:=vN (ok.A8 hv) (S.I1 w).length _ UC;have fd:=zU (ok.A8 hv) (S.I1 w).length _ UC;simp only;generalize E9.fresh (S.U8 v) (S.I1 w).length S.tick.tick=q at f1 f2 f3 f4 f5 f6 fp fd ⊢;have fp:q.1.AX<=S.AX:=fp;have D1:AP S q.1:=AP.trans (T:=S.tick.tick) (z1q _) D0 (.like UC f2.like);have OV:S.l.length<=q.1.l.length:=f2.le;split
    ·rename_i g;exact⟨D1,fp,λh=>absurd h g,λm h=>absurd h g⟩
    ·rename_i g;have g0:q.2.2=0:=Classical.not_not.1 g;have ql:=f6 g0;have kw:=ok.knd hw;have kn:=ok.Yl hw;by_cases A5d:S.F9 w<=5
     ·exfalso;have h0:(S.I1 w).length=0:=by rw[kn];unfold NH;rw[A7 (by omega),A7 (by omega)]
      have hu:=ok.K5 hw;obtain⟨d,d1,-,d3,d4,-⟩:=hu.nd;have hr:(S.K5 w).r=w:=rw_;rw[hr]at d1;have hk:(S.K5 w).D5=[]:=by
       have:d.D5.length=0:=by rw[<- ED d1];exact h0
       exact z9q.1 (by omega)
      have h4:=(ok.DW hw).1 R8;rcases NT.CF.1 h4 with e | ⟨u,hu,-⟩
      ·exact absurd (show w=4 by rw[<- hr];exact e.symm) fC
      ·rw[hk]at hu;cases hu
     ·have WQ:S.F9 w=7\/S.F9 w=8\/S.F9 w=9:=by omega
      have m0:q.2.1.getD 0 0∈q.2.1:=by
       have:0<q.2.1.length:=by rw[ql,kn];unfold NH;split<;>(try split)<;>omega
       rw[z5q,z3q this];exact z8q this
      have z1:q.1.dn (q.2.1.getD 1 0)=0:=by
       by_cases h:1<q.2.1.length
       ·rw[z5q,z3q h];exact fd _ (z8q h)
       ·rw[z5q,List.getElem?_eq_none (by omega)];exact BP f1 (j:=0) (by omega)
      have p1:S.F9 w≠8->q.2.1.getD 1 0<q.1.l.length:=by
       intro h8;have:1<q.2.1.length:=by rw[ql,kn];unfold NH;rw[A7 h8,A9 (by omega)];omega
       rw[z5q,z3q this];exact f5 _ (z8q this)
      obtain⟨m1,m2,-,m4,-,-⟩:=Gd f1 WQ (f5 _ m0) p1;have mz:=A2f f1 WQ (f5 _ m0) p1;rw[fd _ m0,z1]at mz;have mp:=A0o f1 (S.F9 w) (q.2.1.getD 0 0) (q.2.1.getD 1 0) k6;generalize q.1.make (S.F9 w) (q.2.1.getD 0 0) (q.2.1.getD 1 0)=z at m1 m2 m4 mz mp ⊢;have D2:AP S z.1:=AP.trans OV D1 (.like f1 m2.like);have VX:S.l.length<=z.1.l.length:=z7q OV m2.le;split
      ·rename_i gz;exact⟨D2,by have:=mp.1;simp only;omega,λh=>absurd h gz,λm h=>absurd h gz⟩
      ·rename_i gz;have z0:z.2.2=0:=Classical.not_not.1 gz;have L:=A0n m1 (z0q hv VX) m4;have D3:AP z.1 (z.1.link v z.2.1).1:=.link m1 (z0q hv VX) m4 (by omega);refine⟨AP.trans VX D2 D3,by have:=mp.1;have:=L.1;simp only;omega,λh=>by have:=mp.2 z0;have:=L.1;simp only;omega,λm _ hm=>?_⟩;simp only[D8]at hm;subst hm;simp only;rw[D3 _ m4];omega
structure B5x(S:E9)(p:Nat×Nat)(rest:List (Nat×Nat))(T:E9)(l:List (Nat×Nat)):Prop where
 ok:T.Ok
 ext:Y3 S T
 lt:∀q∈l,q.1<T.l.length/\q.2<T.l.length
 dn:AP S T
 cost:T.J8+5 * T.AX+md T l<=S.J8+5 * S.AX+md S (p::rest)
def A8c(ok:S.Ok){p:Nat×Nat}{rest:List (Nat×Nat)}(hl:∀q∈p::rest,q.1<S.l.length/\q.2<S.l.length):
 (∃q,(∀f,E9.Q6 (f+1) S (p::rest)=some q)/\AP S q.1/\q.2.2.2≠0/\q.1.J8+5 * q.1.AX<=S.J8+5 * S.AX+5)\/∃T l,(∀f,E9.Q6 (f+1) S (p::rest)=E9.Q6 f T l)/\B5x S p rest T l:=by
 obtain⟨h1,h2⟩:=hl p (z4q ..);have CJ:∀q∈rest,q.1<S.l.length/\q.2<S.l.length:=λq hq=>hl q (z2q _ hq);have x1:=ok.Gs h1;have x2:=ok.Gs h2;have r1:=A2g ok h1;have r2:=A2g ok h2;have ZM:∀{T:E9},Y3 S T->∀q∈rest,q.1<T.l.length/\q.2<T.l.length:=λe q hq=>⟨z0q (CJ q hq).1 e.le,z0q (CJ q hq).2 e.le⟩;have D5:∀(T:E9)(x y:Nat),T.Ok->Y3 S T->x<T.l.length->y<T.l.length->∀q∈(T.I1 (T.root x)).zip (T.I1 (T.root y))++rest,q.1<T.l.length/\q.2<T.l.length:=by
  intro T x y okT e hx hy q hq;rcases zaq.1 hq with hq | hq
  ·exact⟨okT.Nn hx (zmq hq).1,okT.Nn hy (zmq hq).2⟩
  ·exact ZM e q hq
 have low:∀n,1<=S.dn p.1+S.dn p.2->B5x S p rest (S.lower n 0) rest:=λn h1=>by
  have D:AP S (S.lower n 0):=.like ok (Y6.lower S _ _);refine⟨ok.lower _ _,Y3.lower S _ _,ZM (Y3.lower S _ _),D,?_⟩;rw[aC D CJ,md];have:(S.lower n 0).AX=S.AX:=by unfold E9.AX;rw[A0w];rfl
  have:(S.lower n 0).J8=S.J8+1:=rfl;omega
 by_cases c1:S.root p.1=S.root p.2
 ·exact .inr ⟨S,rest,λf=>by rw[Y8,A9 c1],ok,Y3.refl S,CJ,AP.refl S,by rw[md];omega⟩
 by_cases c2:S.root p.1=4
 ·refine .inr ⟨_,rest,λf=>by rw[Y8,A7 c1,A9 c2],low _ ?_⟩;rw[c2,oI ok]at r1;omega
 by_cases c3:S.root p.2=4
 ·refine .inr ⟨_,rest,λf=>by rw[Y8,A7 c1,A7 c2,A9 c3],low _ ?_⟩;rw[c3,oI ok]at r2;omega
 by_cases c4:S.F9 (S.root p.1)=6
 ·have B:=LA ok x1 x2 (ok.rr h1) (ok.rr h2) c1 c3 c4;have C:=A5x ok x1 x2 (ok.rr h2) c3;by_cases e0:(S.become (S.root p.1) (S.root p.2)).2.2=0
  ·have l1:=C.less e0;have l2:=B.J8;cases hm:(S.become (S.root p.1) (S.root p.2)).2.1 with
   |none=>refine .inr ⟨_,rest,λf=>by rw[Y8,A7 c1,A7 c2,A7 c3,A9 c4,A7 (λg=>g e0),hm],B.ok,B.ext,ZM B.ext,C.dn,?_⟩;rw[aC C.dn CJ,md];omega
   |some m=>obtain⟨b1,b2,b3,b4⟩:=B.some m e0 hm;have hy:=z0q x2 B.ext.le;refine .inr ⟨_,_,λf=>by rw[Y8,A7 c1,A7 c2,A7 c3,A9 c4,A7 (λg=>g e0),hm],B.ok,B.ext,D5 _ m _ B.ok B.ext b1 hy,C.dn,?_⟩;have k1:=Wm B.ok b1;have k2:=Wm B.ok hy;rw[C.z m e0 hm]at k1;rw[C.dn _ x2,r2]at k2;have k3:=A1A (S.become (S.root p.1) (S.root p.2)).1 ((S.become (S.root p.1) (S.root p.2)).1.I1 ((S.become (S.root p.1) (S.root p.2)).1.root m)) ((S.become (S.root p.1) (S.root p.2)).1.I1 ((S.become (S.root p.1) (S.root p.2)).1.root (S.root p.2)));rw[A1z,aC C.dn CJ,md];omega
  ·refine .inl ⟨(_,0,0,_),λf=>by rw[Y8,A7 c1,A7 c2,A7 c3,A9 c4,A9 e0],C.dn,e0,?_⟩;have e1:=C.AX;have e2:=B.J8;exact(by omega:(S.become (S.root p.1) (S.root p.2)).1.J8+5 * (S.become (S.root p.1) (S.root p.2)).1.AX<=S.J8+5 * S.AX+5)
 by_cases c5:S.F9 (S.root p.2)=6
 ·have B:=LA ok x2 x1 (ok.rr h2) (ok.rr h1) (Ne.symm c1) c2 c5;have C:=A5x (v:=S.root p.2) ok x2 x1 (ok.rr h1) c2;by_cases e0:(S.become (S.root p.2) (S.root p.1)).2.2=0
  ·have l1:=C.less e0;have l2:=B.J8;cases hm:(S.become (S.root p.2) (S.root p.1)).2.1 with
   |none=>refine .inr ⟨_,rest,λf=>by rw[Y8,A7 c1,A7 c2,A7 c3,A7 c4,A9 c5,A7 (λg=>g e0),hm],B.ok,B.ext,ZM B.ext,C.dn,?_⟩;rw[aC C.dn CJ,md];omega
   |some m=>obtain⟨b1,b2,b3,b4⟩:=B.some m e0 hm;have hy:=z0q x1 B.ext.le;refine .inr ⟨_,_,λf=>by rw[Y8,A7 c1,A7 c2,A7 c3,A7 c4,A9 c5,A7 (λg=>g e0),hm],B.ok,B.ext,D5 _ _ m B.ok B.ext hy b1,C.dn,?_⟩;have k1:=Wm B.ok b1;have k2:=Wm B.ok hy;rw[C.z m e0 hm]at k1;rw[C.dn _ x1,r1]at k2;have k3:=A1A (S.become (S.root p.2) (S.root p.1)).1 ((S.become (S.root p.2) (S.root p.1)).1.I1 ((S.become (S.root p.2) (S.root p.1)).1.root (S.root p.1))) ((S.become (S.root p.2) (S.root p.1)).1.I1 ((S.become (S.root p.2) (S.root p.1)).1.root m));rw[A1z,aC C.dn CJ,md];omega
  ·refine .inl ⟨(_,0,0,_),λf=>by rw[Y8,A7 c1,A7 c2,A7 c3,A7 c4,A9 c5,A9 e0],C.dn,e0,?_⟩;have e1:=C.AX;have e2:=B.J8;exact(by omega:(S.become (S.root p.2) (S.root p.1)).1.J8+5 * (S.become (S.root p.2) (S.root p.1)).1.AX<=S.J8+5 * S.AX+5)
 by_cases c6:S.F9 (S.root p.1)=S.F9 (S.root p.2)
 ·refine .inr ⟨S,(S.I1 (S.root p.1)).zip (S.I1 (S.root p.2))++rest,λf=>by rw[Y8,A7 c1,A7 c2,A7 c3,A7 c4,A7 c5,A7 (λg=>g c6)],ok,Y3.refl S,D5 S _ _ ok (Y3.refl S) h1 h2,AP.refl S,?_⟩;have k1:=Wm ok h1;have k2:=Wm ok h2;have k3:=A1A S (S.I1 (S.root p.1)) (S.I1 (S.root p.2));rw[A1z,md];omega
 ·exact .inl ⟨(S,_,_,4),λf=>by rw[Y8,A7 c1,A7 c2,A7 c3,A7 c4,A7 c5,A9 c6],AP.refl S,by simp,by simp only;omega⟩
def A5s:∀(f:Nat)(S:E9)(l:List (Nat×Nat))(q:E9×Nat×Nat×Nat),S.Ok->(∀p∈l,p.1<S.l.length/\p.2<S.l.length)->E9.Q6 f S l=some q->AP S q.1/\q.1.J8+5 * q.1.AX<=S.J8+5 * S.AX+md S l+if q.2.2.2=0 then 0 else 5
 |0,S,l,q,ok,hl,h=>by simp[E9.Q6]at h
 |f+1,S,[],q,ok,hl,h=>by simp only[E9.Q6,D8]at h;subst h;exact⟨AP.refl S,by simp only[md];omega⟩
 |f+1,S,p::rest,q,ok,hl,h=>by
   rcases A8c ok hl with⟨q',h',a,c,d⟩ | ⟨T,l,h',G⟩
   ·rw[h' f]at h;cases h;exact⟨a,by rw[A7 c];omega⟩
   ·rw[h' f]at h;obtain⟨a,c⟩:=A5s f T l q G.ok G.lt h;exact⟨AP.trans G.ext.le G.dn a,by have:=G.cost;omega⟩
def A88(ok:S.Ok){a b:Nat}(ha:a<S.l.length)(hb:b<S.l.length):AP S (S.agree a b).1/\(S.agree a b).1.J8+5 * (S.agree a b).1.AX<=S.J8+5 * S.AX+(S.dn a+S.dn b)+if (S.agree a b).2.2.2=0 then 0 else 5:=by obtain⟨f,hf⟩:=aT ok ha hb;have:=A5s f S _ _ ok (by simp[ha,hb]) hf;simp only[md,Nat.add_zero]at this;exact this
end
mutual
def Ty.dn:Ty->Nat
 |.mk k _ ts=>(if k=5 then 1 else 0)+Ty.EY ts
def Ty.EY:List Ty->Nat
 |[]=>0
 |t::ts=>t.dn+Ty.EY ts
end
theorem Ty.A49(t:Ty):t.dn=(if t.E8=5 then 1 else 0)+Ty.EY t.D5:=by cases t;rw[Ty.dn];rfl
def A7e(S:E9)(k A8:Nat)(l:List Nat)(hk:k≠6):(S.add ⟨k,A8,none,l⟩).AX<=S.AX:=by simp only[E9.AX,A77,Ms,beq_iff_eq,hk,zbq,false_and,G9];simp only[E9.add];omega
def B8J(t:Ty):t.rc->∀S:E9,S.Ok->S.cnt+KP t<=S.mx->(KZ t S).1.dn (KZ t S).2=t.dn/\(KZ t S).1.AX<=S.AX:=by
 induction t using Ty.ind with
 |h t ih=>
   intro hr S ok hc;have G:=aI t hr S ok hc;rw[lL]at G ⊢;rw[TP]at G hc;rw[Ty.A49];rcases hr.E8 with⟨e,h1,h2,-⟩ | ⟨e,h1,h2,h3,-⟩
   ·rw[e];simp only[zTq,F6];refine⟨?_,z1q _⟩;obtain⟨j,hj,hj5⟩:∃j:Nat,t.E8=(j:Int)+1/\j<5:=⟨(t.E8-1).toNat,by omega,by omega⟩;have:(t.E8-1).toNat=j:=by omega
    rw[this];unfold E9.dn;rw[(z_ ok hj5).eq];simp only[NT.dn,NT.EY,Ty.EY]
    by_cases g:j+1=5
    ·rw[A9 g,A9 (by omega)]
    ·rw[A7 g,A7 (by omega)]
   ·have hl:¬t.D5.length=0:=λg=>e (z9q.1 g);rw[A7 hl]at hc G;rw[A7 hl]at G ⊢;have key:∀(ts:List Ty),(∀k∈ts,k∈t.D5)->∀S:E9,S.Ok->S.cnt+BZ ts<=S.mx->(BH ts S).1.Ok/\Da S (BH ts S).1/\(BH ts S).1.cnt=S.cnt+BZ ts/\(∀x∈(BH ts S).2,x<(BH ts S).1.l.length)/\((BH ts S).2.map (BH ts S).1.dn).sum=Ty.EY ts/\(BH ts S).1.AX<=S.AX:=by
     intro ts;induction ts with
     |nil=>intro _ S ok _;exact⟨ok,Da.refl S,rfl,by simp[BH],by simp[BH,Ty.EY],z1q _⟩
     |cons k ts ihs=>
       intro hs S ok hc;rw[BZ]at hc;have hk:=hs k (z4q ..);obtain⟨a,a2⟩:=aI k (hr.kid hk) S ok (by omega);obtain⟨p1,p2⟩:=ih k hk (hr.kid hk) S ok (by omega);have ac:=a.cnt;have am:=a.U0.mx;obtain⟨c1,c2,c3,c4,c5,c6⟩:=ihs (λw hw=>hs w (z2q _ hw)) _ a.ok (by omega);rw[BH,BZ,Ty.EY];refine⟨c1,a.U0.trans c2,by simp only;omega,λx hx=>?_,?_,z7q c6 p2⟩
       ·rcases zeq.1 hx with rfl | hx
        ·exact z0q a2 c2.le
        ·exact c4 x hx
       ·simp only[zdq,zgq]
        rw[c5,AP.like a.ok c2.like _ a2,p1]
    obtain⟨a1,a2,a3,a4,a5,a6⟩:=key t.D5 (λk hk=>hk) S ok (by omega);obtain⟨⟨g1,-,-,-⟩,-⟩:=G;have en:((BH t.D5 S).1.add ⟨t.E8.toNat,0,none,(BH t.D5 S).2⟩).l[(BH t.D5 S).1.l.length]?=some ⟨t.E8.toNat,0,none,(BH t.D5 S).2⟩:=by simp[E9.add]
    refine⟨?_,z7q (A7e _ _ _ _ ?_) a6⟩
    ·simp only at g1 ⊢;rw[A00 g1 en,A7 (by omega),A7 (by omega)];congr 1;rw[<- a5];congr 1;refine zzq λx hx=>?_;exact AP.like a1 (Y6.add _ _) x (a4 x hx)
    ·omega
mutual
theorem B4a(K:List (Nat×Nat)):∀(t:NT)(q:E9×List (Nat×Nat)),Da q.1 (t.copy K q).2.1
 |.mk r k ts,q=>by
   rw[NT.copy];split
   ·exact Da.refl _
   ·split
    ·exact Da.refl _
    ·split
     ·exact Da.refl _
     ·exact(tT K ts q).trans (Da.add _ _)
theorem tT(K:List (Nat×Nat)):∀(ts:List NT)(q:E9×List (Nat×Nat)),Da q.1 (NT.V3 K ts q).2.1
 |[],q=>by rw[NT.V3];exact Da.refl _
 |t::ts,q=>by rw[NT.V3];exact(B4a K t q).trans (tT K ts _)
end
def B7N{S0:E9}{n0:Nat}{K:List (Nat×Nat)}(ok0:S0.Ok)(hK:∀e∈K,e.2<S0.l.length)(hK6:∀e∈K,S0.F9 e.1=6/\S0.dn e.2=0)(hn:S0.need K n0<=S0.mx-S0.cnt){N:List Nat}(hN:N=(S0.roots n0).filter λr=>S0.F9 r != 6&&(S0.K5 r).has (K.map (·.1)))(t:NT):
 ∀n,U9 S0 n t->(∀x∈t.all,x∈S0.roots n0)->∀(S:E9)(M:List (Nat×Nat)),CI S0 N S M->(∀e∈M,S.dn e.2=S0.dn e.1)->(t.copy K (S,M)).2.1.dn (t.copy K (S,M)).1=t.dn/\(t.copy K (S,M)).2.1.AX<=S.AX/\∀e∈(t.copy K (S,M)).2.2,(t.copy K (S,M)).2.1.dn e.2=S0.dn e.1:=by
 induction t using NT.ind with
 |h r k ts ih=>
   intro n hu hx S M C hM;obtain⟨CT,-,-⟩:=jN ok0 hK hn hN (.mk r k ts) n hu hx S M C;have hr:=hu.Gs;simp only[NT.JK]at hr;have e0:S0.dn r=(NT.mk r k ts).dn:=by unfold E9.dn;rw[hu.B3i]
   obtain⟨d,d1,d2,d3,d4,-⟩:=hu.nd;simp only[NT.JK,NT.VV,NT.U7]at d1 d3 d4;have kd:=ok0.ki _ _ d1;rw[NT.copy]at CT ⊢;cases hf:E_ K r with
   |some m=>
     simp only;obtain⟨h6,h0⟩:=hK6 _ (QO hf);refine⟨?_,z1q _,hM⟩;rw[AP.like ok0 C.U0.like _ (hK _ (QO hf)),h0];simp only at h6;rw[DU d1]at h6;have:ts.length=0:=by rw[<- d4,kd.1,h6];rfl
     rw[z9q.1 this,NT.dn,A7 (by omega),NT.EY]
   |none=>
     rw[hf]at CT;simp only at CT ⊢;by_cases hh:(NT.mk r k ts).has (K.map (·.1))=false
     ·rw[A9 hh];exact⟨by rw[AP.like ok0 C.U0.like _ hr,e0],z1q _,hM⟩
     ·rw[A7 hh]at CT ⊢;cases hm:E_ M r with
      |some m=>simp only;exact⟨by rw[hM _ (QO hm),e0],z1q _,hM⟩
      |none=>
        rw[hm]at CT;simp only at CT ⊢;have key:∀(us:List NT),(∀u∈us,u∈ts)->∀(S:E9)(M:List (Nat×Nat)),CI S0 N S M->(∀e∈M,S.dn e.2=S0.dn e.1)->CI S0 N (NT.V3 K us (S,M)).2.1 (NT.V3 K us (S,M)).2.2/\(∀x∈(NT.V3 K us (S,M)).1,x<(NT.V3 K us (S,M)).2.1.l.length)/\((NT.V3 K us (S,M)).1.map (NT.V3 K us (S,M)).2.1.dn).sum=NT.EY us/\(NT.V3 K us (S,M)).2.1.AX<=S.AX/\∀e∈(NT.V3 K us (S,M)).2.2,(NT.V3 K us (S,M)).2.1.dn e.2=S0.dn e.1:=by
         intro us;induction us with
         |nil=>intro _ S M C hM;rw[NT.V3];exact⟨C,by simp,by simp[NT.EY],z1q _,hM⟩
         |cons u us ihu=>
           intro hs S M C hM;have Du:=hs u (z4q ..);obtain⟨m,hm⟩:=hu.kid (u:=u) Du;have FH:∀x∈u.all,x∈S0.roots n0:=λx FH=>hx x (NT.CF.2 (.inr ⟨u,Du,FH⟩));obtain⟨a1,a2,-⟩:=jN ok0 hK hn hN u m hm FH S M C;obtain⟨p1,p2,p3⟩:=ih u Du m hm FH S M C hM;obtain⟨c1,c2,c3,c4,c5⟩:=ihu (λw hw=>hs w (z2q _ hw)) _ _ a1 p3;have gr:=tT K us (u.copy K (S,M)).2;rw[NT.V3,NT.EY];refine⟨c1,λx hx=>?_,?_,z7q c4 p2,c5⟩
           ·rcases zeq.1 hx with rfl | hx
            ·exact z0q a2 gr.le
            ·exact c2 x hx
           ·simp only[zdq,zgq]
            have c3':((NT.V3 K us (u.copy K (S,M)).2).1.map (NT.V3 K us (u.copy K (S,M)).2).2.1.dn).sum=NT.EY us:=c3;rw[c3',AP.like a1.ok gr.like _ a2,p1]
        obtain⟨a1,a2,a3,a4,a5⟩:=key ts (λu hu=>hu) S M C hM;generalize NT.V3 K ts (S,M)=q at a1 a2 a3 a4 a5 CT ⊢;have k6:k≠6:=by
         intro e;subst e;have:ts.length=0:=by rw[<- d4,kd.1,d3];rfl
         rw[NT.has,z9q.1 this,NT.VL,Bool.or_false,QE]at hh;exact hh (LG.1 hf)
        have en:(q.2.1.add ⟨k,0,none,q.1⟩).l[q.2.1.l.length]?=some ⟨k,0,none,q.1⟩:=by simp[E9.add]
        have D:=AP.like a1.ok (Y6.add q.2.1 ⟨k,0,none,q.1⟩);have nn:(q.2.1.add ⟨k,0,none,q.1⟩).dn q.2.1.l.length=(NT.mk r k ts).dn:=by rw[A00 CT.ok en,NT.dn,<- a3];congr 2;exact zzq λx hx=>D x (a2 x hx)
        refine⟨nn,z7q (A7e _ _ _ _ k6) a4,λe he=>?_⟩;rcases zaq.1 he with he | he
        ·rw[D _ (a1.lt e he)];exact a5 e he
        ·rw[z6q.1 he];exact nn.trans e0.symm
def B2B{S:E9}:∀(fs ts:List Nat)(K K':List (Nat×Nat)),fs.length<=ts.length->(∀t∈ts,S.dn t=0)->(∀e∈K,S.F9 e.1=6/\S.dn e.2=0)->S.keys fs ts K=some K'->∀e∈K',S.F9 e.1=6/\S.dn e.2=0
 |[],ts,K,K',_,_,hk,h=>by simp only[E9.keys,D8]at h;subst h;exact hk
 |f::fs,[],K,K',hl,_,hk,h=>by simp at hl
 |f::fs,t::ts,K,K',hl,ht,hk,h=>by
   rw[E9.keys]at h;split at h
   ·rename_i g;refine B2B fs ts _ K' (by simpa using hl) (λx hx=>ht x (z2q _ hx)) (λe he=>?_) h;rcases zaq.1 he with he | he
    ·exact hk e he
    ·rw[z6q.1 he];exact⟨g.1,ht t (z4q ..)⟩
   ·cases h
def B6g{S:E9}(ok:S.Ok){n:Nat}(hn:n<S.l.length){from_ to:List Nat}(hl:from_.length<=to.length)(ht:∀t∈to,t<S.l.length)(h0:∀t∈to,S.dn t=0):(S.copy n from_ to).1.dn (S.copy n from_ to).2.1<=S.dn n/\AP S (S.copy n from_ to).1/\(S.copy n from_ to).1.J8+5 * (S.copy n from_ to).1.AX<=S.J8+5 * S.AX+1:=by
 unfold E9.copy;split
 ·exact⟨by simp only;rw[BP ok (by omega)];omega,AP.refl S,by simp only;omega⟩
 ·rename_i K hK;split
  ·exact⟨by simp only;rw[BP ok.tick (by omega)];omega,.like ok (Y6.tick S),by simp only[B4Z];simp only[E9.tick];omega⟩
  ·rename_i hnd;have hk:=A2L from_ to [] K hl ht (by simp) hK;have hk6:=B2B from_ to [] K hl h0 (by simp) hK;have rt:S.tick.roots n=S.roots n:=by unfold E9.roots;rw[(ok.K5 hn).tick.eq]
   have D0:=AP.like ok (Y6.tick S);have ci:CI S.tick ((S.tick.roots n).filter λr=>S.tick.F9 r != 6&&(S.tick.K5 r).has (K.map (·.1))) S.tick []:=⟨ok.tick,Da.refl _,rfl,rfl,by simp,y8q,by simp⟩;have hx:∀x∈(S.K5 n).all,x∈S.tick.roots n:=λx hx=>by rw[rt];exact(ok.DW hn).2 hx
   have B8c:S.tick.need K n<=S.tick.mx-S.tick.cnt:=by rw[A1E ok hn];exact y7q.1 hnd
   obtain⟨C,c2,-⟩:=jN (S0:=S.tick) (n0:=n) ok.tick hk B8c rfl (S.K5 n) n (ok.K5 hn).tick hx S.tick [] ci;obtain⟨p1,p2,-⟩:=B7N (S0:=S.tick) (n0:=n) ok.tick hk (λe he=>⟨(hk6 e he).1,by rw[D0 _ (hk e he)];exact(hk6 e he).2⟩) B8c rfl (S.K5 n) n (ok.K5 hn).tick hx S.tick [] ci (by simp);refine⟨zjq p1,AP.trans (T:=S.tick) (z1q _) D0 (.like ok.tick C.U0.like),?_⟩;have r:=C.J8;have:S.tick.J8=S.J8+1:=rfl;have:S.tick.AX=S.AX:=rfl;simp only;omega
section
noncomputable def W.phi(w:W):Nat:=w.s.J8+5 * w.s.AX+if w.err=0 then 5 else 0
structure GC(w w':W)(c:Nat):Prop where
 g:Good w w'
 dn:AP w.s w'.s
 phi:w'.phi<=w.phi+c
structure GN(w:W)(q:W×Nat)(c r:Nat):Prop where
 c:GC w q.1 c
 lt:q.2<q.1.s.l.length
 dn:q.1.s.dn q.2<=r
variable {w:W}
def GC.refl(h:j5 w):GC w w 0:=⟨Good.refl h,AP.refl _,z1q _⟩
def GC.trans{a b c:W}{m n:Nat}(h:GC a b m)(k:GC b c n):GC a c (m+n):=⟨h.g.trans k.g,AP.trans h.g.ext.le h.dn k.dn,by have:=h.phi;have:=k.phi;omega⟩
def GC.mono{a b:W}{m n:Nat}(h:GC a b m)(le:m<=n):GC a b n:=⟨h.g,h.dn,by have:=h.phi;omega⟩
def GC.n{w1:W}{q:W×Nat}{m n r:Nat}(h:GC w w1 m)(k:GN w1 q n r):GN w q (m+n) r:=⟨h.trans k.c,k.lt,k.dn⟩
def GN.mono{q:W×Nat}{m n r r':Nat}(h:GN w q m r)(le:m<=n)(l2:r<=r'):GN w q n r':=⟨h.c.mono le,h.lt,z7q h.dn l2⟩
variable {c:Nat}
def GC.i{w':W}(h:GC w w' c):j5 w':=h.g.i
def GC.ext{w':W}(h:GC w w' c):Y3 w.s w'.s:=h.g.ext
def GC.lt{w':W}{n:Nat}(h:GC w w' c)(hn:n<w.s.l.length):n<w'.s.l.length:=h.g.lt hn
def GC.at{w':W}{n r:Nat}(h:GC w w' c)(hn:n<w.s.l.length)(hr:w.s.dn n<=r):w'.s.dn n<=r:=by rw[h.dn n hn];exact hr
def JU(S:E9)(l:List EN)(D:Nat):Prop:=∀x∈l,S.dn x.node<=D
variable {S:E9}{l:List EN}{D:Nat}
def JU.mono{T:E9}{D':Nat}(h:JU S l D)(hE:Z5 S.l.length l)(d:AP S T)(le:D<=D'):JU T l D':=λx hx=>by rw[d _ (hE x hx).1];exact z7q (h x hx) le
def JU.app{k:List EN}(h:JU S l D)(g:JU S k D):JU S (l++k) D:=λx hx=>by
 rcases zaq.1 hx with hx | hx
 ·exact h x hx
 ·exact g x hx
def JU.one{s:ByteArray}{m:Nat}{vs:List Nat}(h:S.dn m<=D):JU S [⟨s,m,vs⟩] D:=λx hx=>by rw[z6q.1 hx];exact h
variable (w:W)(e:Nat)(b:GJ)
def EB(h:w.err=0):(w.fails e b).err=e:=by
 unfold W.fails;split
 ·rfl
 ·rename_i g;rw[h];exact(Classical.not_not.1 λh2=>g ⟨h,Ne.symm h2⟩)
def Uu(h:w.err≠0):(w.fails e b).err=w.err:=by unfold W.fails;rw[A7 λg=>h g.1]
def A3Z:(w.fails e b).phi<=w.phi:=by
 unfold W.phi;rw[X9];by_cases h:w.err=0
 ·rw[EB w e b h,h];simp only[F6];split<;>omega
 ·rw[Uu w e b h];omega
variable {w:W}
def aH{e:Nat}{b:GJ}(h:w.err=0)(hs:S.J8+5 * S.AX<=w.s.J8+5 * w.s.AX+c+if e=0 then 0 else 5):(({ w with s:=S }:W).fails e b).phi<=w.phi+c:=by
 unfold W.phi;rw[X9,EB _ e b (by simpa using h),h];simp only[F6]
 split at hs
 ·rename_i g;rw[A9 g];omega
 ·rename_i g;rw[A7 g];omega
variable {A8:Nat}
def Qy(h:j5 w)(hl:A8<2 ^ 31):GN w (w.fresh A8) 0 0:=by
 obtain⟨a1,a2⟩:=Ab h hl;have dv:=B2k h.ok hl;have pv:=A9E h.ok A8;obtain⟨-,v2,v3,-⟩:=Lg h.ok hl;refine⟨⟨a1,?_,?_⟩,a2,?_⟩
 all_goals
  unfold W.fresh at a1 a2 ⊢;split
 ·exact AP.refl _
 ·simp only;rw[X9];exact .like h.ok v2.like
 ·exact zhq _ _
 ·rename_i g;exact aH (Classical.not_not.1 g) (by omega)
 ·simp only;rw[BP h.ok (by omega)];omega
 ·simp only;rw[X9];simp only;omega
def lF(h:j5 w){k x y r:Nat}(hk:k=7\/k=8\/k=9)(hx:x<w.s.l.length)(hy:k≠8->y<w.s.l.length)(hr:w.s.dn x+w.s.dn y<=r):GN w (w.made k x y) 0 r:=by
 obtain⟨a1,a2⟩:=EF h hk hx hy;have dv:=A2f h.ok hk hx hy;have pv:=(A0o h.ok k x y (by omega)).1;obtain⟨-,v2,v3,-⟩:=Gd h.ok hk hx hy;refine⟨⟨a1,?_,?_⟩,a2,?_⟩
 all_goals
  unfold W.made at a1 a2 ⊢;split
 ·exact AP.refl _
 ·simp only;rw[X9];exact .like h.ok v2.like
 ·exact zhq _ _
 ·rename_i g;exact aH (Classical.not_not.1 g) (by omega)
 ·simp only;rw[BP h.ok (by omega)];omega
 ·simp only;rw[X9];simp only;omega
def B1n(h:j5 w){t:Ty}(ht:t.rc):GN w (w.put t) 0 t.dn:=by
 obtain⟨a1,a2⟩:=Qf h ht;obtain⟨-,v2,-,-⟩:=A7j h.ok ht;have cm:=h.ok.cm;have key:(w.s.put t).1.dn (w.s.put t).2.1<=t.dn/\(w.s.put t).1.AX<=w.s.AX/\(w.s.put t).1.J8=w.s.J8:=by
  unfold E9.put;split
  ·exact⟨by simp only;rw[BP h.ok (by omega)];omega,z1q _,rfl⟩
  ·obtain⟨p1,p2⟩:=B8J t ht w.s h.ok (by omega);exact⟨zjq p1,p2,(aI t ht w.s h.ok (by omega)).1.J8⟩
 obtain⟨k1,k2,k3⟩:=key;refine⟨⟨a1,?_,?_⟩,a2,?_⟩
 all_goals
  unfold W.put at a1 a2 ⊢;split
 ·exact AP.refl _
 ·simp only;rw[X9];exact .like h.ok v2.like
 ·exact zhq _ _
 ·rename_i g;exact aH (Classical.not_not.1 g) (by omega)
 ·simp only;rw[BP h.ok (by omega)];omega
 ·simp only;rw[X9];simp only;omega
def Ea(h:j5 w){a b:Nat}(ha:a<w.s.l.length)(hb:b<w.s.l.length)(e:Ex)(hc:w.s.dn a+w.s.dn b<=c):GC w (w.agree a b e) c:=by
 have a1:=U3 h ha hb e;obtain⟨v1,v2⟩:=A88 h.ok ha hb;refine⟨a1,?_,?_⟩
 all_goals
  unfold W.agree at a1 ⊢;split
 ·exact AP.refl _
 ·rw[X9];exact v1
 ·exact zhq _ _
 ·rename_i g;exact aH (Classical.not_not.1 g) (by omega)
variable {l:List Nat}
def qA{w':W}(h:GC w w' c)(hl:∀x∈l,x<w'.s.l.length):GC w (w'.Y1 l) c:=⟨Dm h.g hl,h.dn,h.phi⟩
def A93{w':W}(h:GC w w' c)(hl:(∀x∈l,x<w'.s.l.length)/\l.length<2 ^ 29):GC w (w'.RU l) c:=⟨Hz h.g hl,h.dn,h.phi⟩
def A91{q:W×Nat}{r:Nat}(h:GN w q c r):GN w (W.tell q) c r:=by obtain⟨a1,a2⟩:=gI h.c.g h.lt;exact⟨⟨a1,h.c.dn,h.c.phi⟩,a2,h.dn⟩
def A2V(h:j5 w){t:Ty}(ht:t.E8≠0->t.rc)(hl:A8<2 ^ 31):GN w (w.Y0 t A8) 0 t.dn:=by
 unfold W.Y0;split
 ·rename_i g;exact B1n h (ht g)
 ·exact(A91 (Qy h hl)).mono (z1q _) (zfq _)
def A86(h:j5 w){n:Nat}(hn:n<w.s.l.length):GC w (w.above n A8).1 1:=by refine⟨(BS h hn).1,.like h.ok (Y6.tick _),?_⟩;exact(by omega:w.s.J8+1+5 * w.s.AX+(if w.err=0 then 5 else 0)<=w.s.J8+5 * w.s.AX+(if w.err=0 then 5 else 0)+1)
def B2K{A8:Nat}(hl:A8<2 ^ 31):∀(k:Nat){w:W},j5 w->(∀t∈w.types,w.s.dn t=0)->GC w (W.many A8 k w) 0/\∀t∈(W.many A8 k w).types,(W.many A8 k w).s.dn t=0
 |0,w,h,h0=>⟨GC.refl h,h0⟩
 |k+1,w,h,h0=>by
   have a:=Qy h hl;have t:=A91 a;have et:(w.fresh A8).1.types=w.types:=by
    unfold W.fresh;split
    ·rfl
    ·rw[Sa]
   rw[W.many];obtain⟨b1,b2⟩:=B2K hl k t.c.i (λx hx=>by
    simp only[W.tell,et,zaq,z6q]at hx;rcases hx with hx | rfl
    ·exact(t.c.dn x (h.ty x hx)).trans (h0 x hx)
    ·exact y5q.1 a.dn)
   exact⟨t.c.trans b1,b2⟩
def B8x(h:j5 w){e:Ex}{l:List EN}(hl:A8<2 ^ 31)(hE:Z5 w.s.l.length l)(hD:JU w.s l D)(h0:w.types=[]):GN w (w.name e A8 l) 1 D:=by
 unfold W.name;split
 ·exact⟨⟨(Good.refl h).fails _ _,by rw[X9];exact AP.refl _,z7q (A3Z ..) (zXq _)⟩,by rw[X9];have:=h.ok.five;simp only;omega,by rw[X9];simp only;rw[BP h.ok (by omega)];omega⟩
 ·rename_i x hx;have hx:=zqq hx;rw[List.mem_reverse]at hx;obtain⟨x1,x2⟩:=hE x hx;split
  ·exact⟨(GC.refl h).mono (zfq _),x1,hD x hx⟩
  ·obtain⟨g,g0⟩:=B2K hl x.vars.length h (by rw[h0];simp);have ht:=Q_ (A8:=A8) x.vars.length w;simp only;generalize W.many A8 x.vars.length w=w1 at g g0 ht ⊢;have xl:=g.lt x1;have xd:=g.at x1 (hD x hx);split
   ·exact⟨g.mono (zfq _),by have:=g.i.ok.five;simp only;omega,by simp only;rw[BP g.i.ok (by omega)];omega⟩
   ·rename_i ge;obtain⟨c1,c2,c3⟩:=aZ g.i.ok xl (from_:=x.vars) (to:=w1.types) (by omega) g.i.ty;obtain⟨p1,p2,p3⟩:=B6g g.i.ok xl (from_:=x.vars) (to:=w1.types) (by omega) g.i.ty g0;have G:GC w1 (({ w1 with s:=(w1.s.copy x.node x.vars w1.types).1 }:W).fails (w1.s.copy x.node x.vars w1.types).2.2 P7) 1:=⟨(g.i.s (w':={ w1 with s:=(w1.s.copy x.node x.vars w1.types).1 }) c1 c2 rfl rfl rfl).fails _ _,by rw[X9];exact p2,aH (Classical.not_not.1 ge) (by omega)⟩;exact⟨(g.trans G).mono (by omega),by rw[X9];exact c3,by rw[X9];exact z7q p1 xd⟩
structure PC(x y:PS)(e:Nat):Prop where
 g:Qo x y
 dn:AP x.s y.s
 cost:y.s.J8+5 * y.s.AX<=x.s.J8+5 * x.s.AX+if e=0 then 0 else 5
 nd:(∀n∈x.nodes,n<x.s.l.length/\x.s.dn n=0)->∀n∈y.nodes,y.s.dn n=0
def PC.trans{x y z:PS}{e:Nat}(h:PC x y 0)(k:PC y z e):PC x z e where
 g:=h.g.trans k.g
 dn:=AP.trans h.g.ext.le h.dn k.dn
 cost:=by have h1:=h.cost;have h2:=k.cost;rw[A9 rfl]at h1;omega
 nd a:=k.nd λn hn=>⟨h.g.nd (λn hn=>(a n hn).1) n hn,h.nd a n hn⟩
def A7b{x:PS}(ok:x.s.Ok){lo hi:Int}{a b:Nat}(ha:a<x.s.l.length)(hb:b<x.s.l.length)(a0:x.s.dn a=0)(b0:x.s.dn b=0):PC x (x.agree lo hi a b).1 (x.agree lo hi a b).2:=by obtain⟨v1,v2⟩:=A88 ok ha hb;exact⟨ic ok ha hb,v1,by rw[a0,b0]at v2;exact v2,λg n hn=>(v1 n (g n hn).1).trans (g n hn).2⟩
def A9D{x:PS}(ok:x.s.Ok)(hl:A8<2 ^ 31){lo hi:Int}{n k many:Nat}(hk:k=7/\many=2\/k=8/\many=1)(hn:n<x.s.l.length)(n0:x.s.dn n=0):
 PC x (x.made A8 lo hi n k many).1 (x.made A8 lo hi n k many).2.2.2/\(∀y∈(x.made A8 lo hi n k many).2.1,(x.made A8 lo hi n k many).1.s.dn y=0)/\(x.made A8 lo hi n k many).1.s.dn (x.made A8 lo hi n k many).2.2.1=0:=by
 have PG:=FY ok hl (lo:=lo) (hi:=hi) (n:=n) hk hn;obtain⟨pg,-,-,-⟩:=PG;obtain⟨f1,f2,f3,f4,f5',f6⟩:=FR hl many x.s ok;have fd:=zU hl many x.s ok;have fp:=vN hl many x.s ok;unfold PS.made at pg ⊢;simp only at pg ⊢;generalize E9.fresh A8 many x.s=q at f1 f2 f3 f4 f5' f6 fd fp pg ⊢;have D1:AP x.s q.1:=.like ok f2.like;split
 ·rename_i g;rw[A9 g]at pg;exact⟨⟨pg,D1,by simp only;omega,λg n hn=>(D1 n (g n hn).1).trans (g n hn).2⟩,by simp,BP f1 (j:=0) (by omega)⟩
 ·rename_i g;rw[A7 g]at pg;have g0:q.2.2=0:=Classical.not_not.1 g;have ql:=f6 g0;have p0:∀i,i<many->q.2.1.getD i 0<q.1.l.length/\q.1.dn (q.2.1.getD i 0)=0:=by intro i hi;rw[z5q,z3q (by omega)];exact⟨f5' _ (z8q (by omega)),fd _ (z8q (by omega))⟩
  have q0:=p0 0 (by omega);have q1:=p0 (many-1) (by omega);obtain⟨m1,m2,m3,m4,m5,m6⟩:=Gd f1 (k:=k) (x:=q.2.1.getD 0 0) (y:=q.2.1.getD (many-1) 0) (by omega) q0.1 (λ_=>q1.1);have md:=A2f f1 (k:=k) (a:=q.2.1.getD 0 0) (b:=q.2.1.getD (many-1) 0) (by omega) q0.1 (λ_=>q1.1);have mp:=(A0o f1 k (q.2.1.getD 0 0) (q.2.1.getD (many-1) 0) (by omega)).1;rw[q0.2,q1.2]at md;generalize q.1.make k (q.2.1.getD 0 0) (q.2.1.getD (many-1) 0)=z at m1 m2 m3 m4 m5 m6 md mp pg ⊢;have D2:AP x.s z.1:=AP.trans f2.le D1 (.like f1 m2.like);have e2:x.s.l.length<=z.1.l.length:=z7q f2.le m2.le;split
  ·rename_i gz;rw[A9 gz]at pg;exact⟨⟨pg,D2,by simp only;omega,λg n hn=>(D2 n (g n hn).1).trans (g n hn).2⟩,by simp,BP m1 (j:=0) (by omega)⟩
  ·have A:=A7b (x:={ x with s:=z.1 }) m1 (lo:=lo) (hi:=hi) (a:=n) (b:=z.2.1) (z0q hn e2) m4 ((D2 n hn).trans n0) (by simp only;omega);rename_i gz;rw[A7 gz]at pg;have Ad:AP z.1 (({ x with s:=z.1 }:PS).agree lo hi n z.2.1).1.s:=A.dn;refine⟨⟨pg,AP.trans e2 D2 Ad,?_,λg=>A.nd λn hn=>⟨z0q (g n hn).1 e2,(D2 n (g n hn).1).trans (g n hn).2⟩⟩,λy hy=>?_,?_⟩
   ·have:=A.cost;simp only at this ⊢;omega
   ·rw[Ad y (z0q (f5' y hy) m2.le),AP.like f1 m2.like y (f5' y hy)];exact fd y hy
   ·rw[Ad _ m4];omega
mutual
theorem B21{A8:Nat}(hl:A8<2 ^ 31):∀(p:F5)(nd:Nat)(x:PS),x.s.Ok->nd<x.s.l.length->x.s.dn nd=0->p.pat=true->PC x (BA A8 p nd x).1 (BA A8 p nd x).2
 |.mk k lo hi name n s ks,nd,x,ok,hn,hz,hp=>by
   have qg:=hp;rw[F5.lK,zbq,zIq]at qg;obtain⟨h1,h2⟩:=qg;obtain⟨KV,WQ⟩:=F5.ww h1;simp only[F5.IW,F5.U7]at KV WQ h2;have f5:=ok.five;rw[BA];split
   ·exact⟨⟨ok,Y3.refl _,λg=>g⟩,AP.refl _,z1q _,λg n hn=>(g n hn).2⟩
   ·split
    ·refine⟨⟨ok,Y3.refl _,λg m hm=>?_⟩,AP.refl _,z1q _,λg m hm=>?_⟩
     all_goals rcases zaq.1 hm with hm | hm
     ·exact g m hm
     ·rw[z6q.1 hm];exact hn
     ·exact(g m hm).2
     ·rw[z6q.1 hm];exact hz
    ·split
     ·rename_i k7;obtain⟨a1,a2,a3,a4⟩:=FY ok hl (lo:=lo) (hi:=hi) (n:=nd) (k:=7) (many:=2) (.inl ⟨rfl,rfl⟩) hn;obtain⟨c1,c2,c3⟩:=A9D ok hl (lo:=lo) (hi:=hi) (n:=nd) (k:=7) (many:=2) (.inl ⟨rfl,rfl⟩) hn hz;generalize x.made A8 lo hi nd 7 2=q at a1 a2 a3 a4 c1 c2 c3 ⊢;split
      ·exact c1
      ·rename_i g;have q0:q.2.2.2=0:=Classical.not_not.1 g;rw[q0]at c1;exact c1.trans (A7c hl ks q.2.1 q.1 a1.ok (by rw[a4 q0,KV (.inl k7)];exact z1q _) a2 c2 h2)
     ·split
      ·rename_i k89;obtain⟨a1,a2,a3,a4⟩:=FY ok hl (lo:=lo) (hi:=hi) (n:=nd) (k:=8) (many:=1) (.inr ⟨rfl,rfl⟩) hn;obtain⟨c1,c2,c3⟩:=A9D ok hl (lo:=lo) (hi:=hi) (n:=nd) (k:=8) (many:=1) (.inr ⟨rfl,rfl⟩) hn hz;generalize x.made A8 lo hi nd 8 1=q at a1 a2 a3 a4 c1 c2 c3 ⊢;split
       ·exact c1
       ·rename_i g;have k9:k=9:=by
         rcases k89 with h | h
         ·exact absurd (.inr h) g
         ·exact h
        have q0:q.2.2.2=0:=Classical.not_not.1 λh=>g (.inl h);rw[q0]at c1;refine c1.trans (A7c hl ks _ q.1 a1.ok (by rw[ziq,a4 q0,KV (.inr k9)];exact z1q _) (λy hy=>?_) (λy hy=>?_) h2)
        all_goals rcases zaq.1 hy with hy | hy
        ·exact a2 y hy
        ·rw[z6q.1 hy];exact a3
        ·exact c2 y hy
        ·rw[z6q.1 hy];exact c3
      ·have:(k-3).toNat<4:=by omega
       exact A7b ok hn (by omega) hz (BP ok this)
theorem A7c{A8:Nat}(hl:A8<2 ^ 31):∀(ps:List F5)(ns:List Nat)(x:PS),x.s.Ok->ps.length<=ns.length->(∀n∈ns,n<x.s.l.length)->(∀n∈ns,x.s.dn n=0)->(∀p∈ps,p.pat=true)->PC x (Dk A8 ps ns x).1 (Dk A8 ps ns x).2
 |[],ns,x,ok,_,_,_,_=>by rw[Dk];exact⟨⟨ok,Y3.refl _,λg=>g⟩,AP.refl _,z1q _,λg n hn=>(g n hn).2⟩
 |p::ps,[],x,ok,J4,_,_,_=>by simp at J4
 |p::ps,n::ns,x,ok,J4,hn,hz,hp=>by
   have a:=B21 hl p n x ok (hn n (z4q ..)) (hz n (z4q ..)) (hp p (z4q ..));rw[lJ];by_cases g:(BA A8 p n x).2≠0
   ·rw[A9 g];exact a
   ·rw[A7 g];rw[Classical.not_not.1 g]at a;exact a.trans (A7c hl ps ns _ a.g.ok (by simpa using J4) (λm hm=>z0q (hn m (z2q _ hm)) a.g.ext.le) (λm hm=>(a.dn m (hn m (z2q _ hm))).trans (hz m (z2q _ hm))) λq hq=>hp q (z2q _ hq))
end
end
section
def Cx(n c:Nat):Prop:=1<=c/\c ^ 5<=4 ^ (n+1)
theorem Cx.one(n:Nat):Cx n 1:=⟨z1q _,by rw[Nat.one_pow];exact Nat.one_le_pow _ _ (by omega)⟩
variable {c:Nat}
theorem Cx.mono{n m:Nat}(h:Cx n c)(le:n<=m):Cx m c:=⟨h.1,z7q h.2 (zFq (by omega) (by omega))⟩
theorem Cx.mul{n m x y:Nat}(h:Cx n x)(k:Cx m y):Cx (n+m+1) (x * y):=⟨Nat.mul_pos h.1 k.1,by rw[y6q,show n+m+1+1=(n+1)+(m+1)by omega,Nat.pow_add];exact zUq h.2 k.2⟩
theorem Cx.succ{n x:Nat}(h:Cx n x)(hn:1<=n):Cx (n+1) (x+1):=by
 refine⟨by omega,?_⟩;obtain⟨h1,h2⟩:=h;rcases zxq x 4 with g | g
 ·have pw:∀m,m<=n->4 ^ (m+2)<=4 ^ (n+2):=λm hm=>zFq (by omega) (by omega);have:x=1\/x=2\/x=3:=by omega
  rcases this with rfl | rfl | rfl
  ·exact z7q (by decide) (pw 1 hn)
  ·have:2<=n:=by
    rcases zxq n 2 with g | g
    ·have:n=1:=by omega
     subst this;exact absurd h2 (by decide)
    ·exact g
   exact z7q (by decide) (pw 2 this)
  ·have:3<=n:=by
    rcases zxq n 3 with g | g
    ·have:n=1\/n=2:=by omega
     rcases this with rfl | rfl
     ·exact absurd h2 (by decide)
     ·exact absurd h2 (by decide)
    ·exact g
   exact z7q (by decide) (pw 3 this)
 ·have a:(4 * (x+1)) ^ 5<=(5 * x) ^ 5:=zHq (by omega) 5;rw[y6q,y6q]at a;have e:4 ^ (n+1+1)=4 * 4 ^ (n+1):=by rw[Nat.pow_succ];omega
  have e1:(4:Nat) ^ 5=1024:=rfl;have e2:(5:Nat) ^ 5=3125:=rfl;rw[e1,e2]at a;rw[e];omega
theorem Cx.add{n m x y:Nat}(h:Cx n x)(k:Cx m y)(hn:1<=n)(hm:1<=m):Cx (n+m+1) (x+y):=by
 by_cases g1:x=1
 ·subst g1;rw[Nat.add_comm 1 y];exact(k.succ hm).mono (m:=n+m+1) (by omega)
 by_cases g2:y=1
 ·subst g2;exact(h.succ hn).mono (m:=n+m+1) (by omega)
 ·have h1:=h.1;have k1:=k.1;obtain⟨z1,z2⟩:=h.mul k;refine⟨by omega,z7q (zHq ?_ 5) z2⟩;obtain⟨a,rfl⟩:∃a,x=a+2:=⟨x-2,by omega⟩;obtain⟨b,rfl⟩:∃b,y=b+2:=⟨y-2,by omega⟩;rw[zcq,Nat.mul_add];have:=zfq (a * b);omega
theorem Cx.max{n x y:Nat}(h:Cx n x)(k:Cx n y):Cx n (max x y):=by
 rcases Nat.le_total x y with g | g
 ·rw[Nat.max_eq_right g];exact k
 ·rw[Nat.max_eq_left g];exact h
inductive CZ(D:Nat):Ex->Prop
 |mk {e:Ex}:2 * e.a.dn<=D->2 * e.b.dn<=D->(∀k∈e.D5,CZ D k)->CZ D e
variable {D:Nat}{e:Ex}
theorem CZ.mono{D':Nat}(le:D<=D')(h:CZ D e):CZ D' e:=by
 induction h with
 |mk a b _ ih=>exact .mk (by omega) (by omega) ih
theorem CZ.a(h:CZ D e):2 * e.a.dn<=D:=by cases h;assumption
theorem CZ.b(h:CZ D e):2 * e.b.dn<=D:=by cases h;assumption
variable {k:Ex}
theorem CZ.kid(h:CZ D e)(hk:k∈e.D5):CZ D k:=by cases h with | mk _ _ h=>exact h k hk
def yD(R:Rec)(e:Ex)(c:Nat):Prop:=∀(A8:Nat)(l:List EN)(w:W)(D X:Nat),A8+e.size<2 ^ 30->j5 w->Z5 w.s.l.length l->1<=D->CZ D e->JU w.s l D->c * D<=X->AP w.s (R e A8 l w).1.s/\(R e A8 l w).1.phi<=w.phi+(3 * (e.size * X)-2 * X)/\(R e A8 l w).1.s.dn (R e A8 l w).2.1<=X
theorem yD.mono{R:Rec}{c':Nat}(h:yD R e c)(le:c<=c'):yD R e c':=λA8 l w D X a b d f g i j=>h A8 l w D X a b d f g i (z7q (zQq D le) j)
theorem UE(e:Ex)(X:Nat):X<=e.size * X:=ztq X (by have:=e.size_eq;omega)
section
variable {R:Rec}{w:W}{A8 D X:Nat}{l:List EN}
theorem B2F(hR:Cw R e)(hC:yD R e c)(hl:A8+e.size<2 ^ 30)(h:j5 w)(hE:Z5 w.s.l.length l)(hD:1<=D)(hA:CZ D e)(hd:JU w.s l D)(hX:c * D<=X):GN w (J2 R w e A8 l) (3 * (e.size * X)-2 * X) X:=by
 obtain⟨a1,a2⟩:=A6L hR hl h hE;obtain⟨c1,c2,c3⟩:=hC A8 l w D X hl h hE hD hA hd hX;refine⟨⟨a1,?_,?_⟩,a2,?_⟩
 all_goals
  unfold J2 at a1 a2 ⊢;split
 ·exact AP.refl _
 ·exact c1
 ·exact zhq _ _
 ·exact c2
 ·simp only;rw[BP h.ok (by omega)];omega
 ·exact c3
theorem B2E(hC:yD R e c)(hl:A8+e.size<2 ^ 30)(h:j5 w)(hE:Z5 w.s.l.length l)(hD:1<=D)(hA:CZ D e)(hd:JU w.s l D):(J2 R w e A8 l).1.s.dn (J2 R w e A8 l).2<=c * D:=by
 obtain⟨c1,c2,c3⟩:=hC A8 l w D _ hl h hE hD hA hd (z1q _);unfold J2;split
 ·simp only;rw[BP h.ok (by omega)];omega
 ·exact c3
structure KC(R:Rec)(A8 D c:Nat)(k:Ex):Prop where
 good:Cw R k
 cost:yD R k c
 lv:A8+1+k.size<2 ^ 30
 ann:CZ D k
theorem KC.run(K:KC R A8 D c k)(h:j5 w)(hE:Z5 w.s.l.length l)(hD:1<=D)(hd:JU w.s l D)(hX:c * D<=X):GN w (J2 R w k A8 l) (3 * (k.size * X)-2 * X) X:=B2F K.good K.cost (by have:=K.lv;omega) h hE hD K.ann hd hX
theorem KC.A7u(K:KC R A8 D c k)(h:j5 w)(hE:Z5 w.s.l.length l)(hD:1<=D)(hd:JU w.s l D)(hX:c * D<=X):GN w (J2 R w k (A8+1) l) (3 * (k.size * X)-2 * X) X:=B2F K.good K.cost K.lv h hE hD K.ann hd hX
theorem KC.dn(K:KC R A8 D c k)(h:j5 w)(hE:Z5 w.s.l.length l)(hD:1<=D)(hd:JU w.s l D):(J2 R w k A8 l).1.s.dn (J2 R w k A8 l).2<=c * D:=B2E K.cost (by have:=K.lv;omega) h hE hD K.ann hd
theorem KC.dn1(K:KC R A8 D c k)(h:j5 w)(hE:Z5 w.s.l.length l)(hD:1<=D)(hd:JU w.s l D):(J2 R w k (A8+1) l).1.s.dn (J2 R w k (A8+1) l).2<=c * D:=B2E K.cost K.lv h hE hD K.ann hd
theorem KC.up{D':Nat}(K:KC R A8 D c k)(le:D<=D'):KC R A8 D' c k:=⟨K.good,K.cost,K.lv,K.ann.mono le⟩
variable {c0 c1 c2:Nat}(hD:1<=D)(h:j5 w)(hE:Z5 w.s.l.length l)(hd:JU w.s l D)
include hD h hE hd
theorem B7M(K0:KC R A8 D c0 (e.kd 0))(K1:KC R A8 D c1 (e.kd 1))(x0:c0 * D<=X)(x1:c1 * D<=X):GN w (MM R w e A8 l) (3 * ((e.kd 0).size * X)+3 * ((e.kd 1).size * X)) X:=by
 have lb:A8<2 ^ 31:=by have:=K0.lv;omega
 have s0:=UE (e.kd 0) X;have s1:=UE (e.kd 1) X;have A:=K0.run h hE hD hd x0;unfold MM;simp only;generalize J2 R w (e.kd 0) A8 l=a at A ⊢;obtain⟨a1,a2,a3⟩:=A;have B:=K1.run a1.i (hE.mono a1.ext.le) hD (hd.mono hE a1.dn (z1q _)) x1;generalize J2 R a.1 (e.kd 1) A8 l=b at B ⊢;obtain⟨b1,b2,b3⟩:=B;have V:=Qy b1.i lb;generalize b.1.fresh A8=v at V ⊢;obtain⟨v1,v2,v3⟩:=V;have t1:=qA v1 (l:=[v.2]) (by simpa using v2);have al:=v1.lt (b1.lt a2);have g1:=Ea t1.i (a:=a.2) (b:=v.2) al v2 (e.kd 0) (c:=X) (by have e1:=v1.at (b1.lt a2) (b1.at a2 a3);exact zVq e1 v3)
 have vl:=g1.lt (show v.2<(v.1.Y1 [v.2]).s.l.length from v2);have vd:=g1.at (show v.2<(v.1.Y1 [v.2]).s.l.length from v2) v3;have bl:=g1.lt (show b.2<(v.1.Y1 [v.2]).s.l.length from v1.lt b2);have bd:=g1.at (show b.2<(v.1.Y1 [v.2]).s.l.length from v1.lt b2) (v1.at b2 b3);generalize (v.1.Y1 [v.2]).agree a.2 v.2 (e.kd 0)=w1 at g1 vl vd bl bd ⊢;have N:=lF g1.i (k:=8) (x:=v.2) (y:=0) (r:=0) (.inr (.inl rfl)) vl (λh=>absurd rfl h) (by rw[BP g1.i.ok (j:=0) (by omega)];exact vd);generalize w1.made 8 v.2 0=n at N ⊢;obtain⟨n1,n2,n3⟩:=N;have g2:=Ea n1.i (a:=b.2) (b:=n.2) (n1.lt bl) n2 (e.kd 1) (c:=X) (by have:=n1.at bl bd;omega);exact⟨((((((a1.trans b1).trans t1).trans g1).trans n1).trans g2)).mono (by omega),g2.lt n2,z7q (g2.at n2 n3) (zfq _)⟩
theorem B7B{f a:Nat}(hl:A8<2 ^ 31)(fl:f<w.s.l.length)(al:a<w.s.l.length)(fd:w.s.dn f<=X)(ad:w.s.dn a<=X)(hX:1<=X):GN w (TI w f a e A8) (2 * X+X) X:=by
 have f5:=h.ok.five;unfold TI;split
 ·exact⟨(GC.refl h).mono (zfq _),by simp only;omega,by simp only;rw[BP h.ok (by omega)];omega⟩
 split
 ·have g:=Ea h (a:=a) (b:=4) al (by omega) (e.kd 1) (c:=X+1) (by rw[oI h.ok];omega);exact⟨g.mono (by omega),g.lt (by omega),g.at (by omega) (by rw[oI h.ok];exact hX)⟩
 split
 ·simp only
  have V:=Qy h hl;generalize w.fresh A8=v at V ⊢;obtain⟨v1,v2,v3⟩:=V;have U:=Qy v1.i hl;generalize v.1.fresh A8=u at U ⊢;obtain⟨u1,u2,u3⟩:=U;have M:=lF u1.i (k:=9) (x:=v.2) (y:=u.2) (r:=0) (.inr (.inr rfl)) (u1.lt v2) (λ_=>u2) (by have:=u1.at v2 v3;omega);generalize u.1.made 9 v.2 u.2=m at M ⊢;obtain⟨m1,m2,m3⟩:=M;have g1:=Ea m1.i (a:=f) (b:=m.2) (m1.lt (u1.lt (v1.lt fl))) m2 (e.kd 0) (c:=X) (by have:=m1.at (u1.lt (v1.lt fl)) (u1.at (v1.lt fl) (v1.at fl fd));omega);have g2:=Ea g1.i (a:=a) (b:=v.2) (g1.lt (m1.lt (u1.lt (v1.lt al)))) (g1.lt (m1.lt (u1.lt v2))) (e.kd 1) (c:=X) (by have e1:=g1.at (m1.lt (u1.lt (v1.lt al))) (m1.at (u1.lt (v1.lt al)) (u1.at (v1.lt al) (v1.at al ad)));have e2:=g1.at (m1.lt (u1.lt v2)) (m1.at (u1.lt v2) (u1.at v2 v3));omega)
  exact⟨((((v1.trans u1).trans m1).trans g1).trans g2).mono (by omega),g2.lt (g1.lt (m1.lt u2)),z7q (g2.at (g1.lt (m1.lt u2)) (g1.at (m1.lt u2) (m1.at u2 u3))) (zfq _)⟩
 split
 ·rename_i k9;have kn:=h.ok.Yl (h.ok.Gs fl);rw[k9]at kn;have ks:=Wm h.ok fl;have two:∃x y,w.s.I1 (w.s.root f)=[x,y]:=by
   match hk:w.s.I1 (w.s.root f),kn with
   |[x,y],_=>exact⟨x,y,rfl⟩
  obtain⟨x,y,hxy⟩:=two;have lx:x<w.s.l.length:=h.ok.Nn fl (by rw[hxy];simp);have ly:y<w.s.l.length:=h.ok.Nn fl (by rw[hxy];simp);rw[hxy]at ks ⊢;simp only[zdq,zDq,zgq,y4q]at ks;have g:=Ea h (a:=a) (b:=x) al lx (e.kd 1) (c:=2 * X) (by omega);have e1:w.s.dn y<=X:=by omega
  exact⟨g.mono (by omega),g.lt ly,g.at ly e1⟩
 ·exact⟨⟨(Good.refl h).fails _ _,by simp only;rw[X9];exact AP.refl _,z7q (A3Z ..) (zhq _ _)⟩,by rw[X9];simp only;omega,by rw[X9];simp only;rw[BP h.ok (by omega)];omega⟩
theorem B9h(K0:KC R A8 D c0 (e.kd 0))(K1:KC R A8 D c1 (e.kd 1))(x0:c0 * D<=X)(x1:c1 * D<=X)(hX:1<=X):GN w (Ru R w e A8 l) (3 * ((e.kd 0).size * X)+3 * ((e.kd 1).size * X)) X:=by
 have lb:A8<2 ^ 31:=by have:=K0.lv;omega
 have s0:=UE (e.kd 0) X;have s1:=UE (e.kd 1) X;have A:=K0.run h hE hD hd x0;unfold Ru;simp only;generalize J2 R w (e.kd 0) A8 l=f at A ⊢;obtain⟨a1,a2,a3⟩:=A;have B:=K1.run a1.i (hE.mono a1.ext.le) hD (hd.mono hE a1.dn (z1q _)) x1;generalize J2 R f.1 (e.kd 1) A8 l=a at B ⊢;obtain⟨b1,b2,b3⟩:=B;have ab:=a1.trans b1;exact(ab.n (B7B hD b1.i (hE.mono ab.ext.le) (hd.mono hE ab.dn (z1q _)) lb (b1.lt a2) b2 (b1.at a2 a3) b3 hX)).mono (by omega) (z1q _)
end
end
section
variable {R:Rec}{w:W}{A8 D X:Nat}{l:List EN}{c0 c1 c2:Nat}(hD:1<=D)(h:j5 w)(hE:Z5 w.s.l.length l)(hd:JU w.s l D)
include hD h hE hd
variable {e:Ex}
theorem B9G(K0:KC R A8 D c0 (e.kd 0))(K1:KC R A8 D c1 (e.kd 1))(hA:CZ D e)(ha:e.a.E8≠0->e.a.rc)(z0:1<=c0)(z1:1<=c1)(hX:c0 * c1 * D<=X):GN w (Ry R w e A8 l) (3 * ((e.kd 0).size * X)+3 * ((e.kd 1).size * X)) X:=by
 have lb:A8<2 ^ 31:=by have:=K0.lv;omega
 have s0:=UE (e.kd 0) X;have s1:=UE (e.kd 1) X;have d0:D<=c0 * D:=ztq D z0;have x1:c1 * (c0 * D)<=X:=by rw[<- Nat.mul_assoc,Nat.mul_comm c1 c0];exact hX
 have x0:c0 * D<=X:=z7q (ztq _ z1) x1;have x1':c1 * D<=X:=z7q (Nat.mul_le_mul_left c1 d0) x1;have ann:=hA.a;unfold Ry;split
 ·rename_i k;have A:=K0.run h hE hD hd x0;simp only;generalize J2 R w (e.kd 0) A8 l=a at A ⊢;obtain⟨a1,a2,a3⟩:=A;have N:=B1n a1.i (ha k);generalize a.1.put e.a=n at N ⊢;obtain⟨n1,n2,n3⟩:=N;have g:=Ea n1.i (a:=a.2) (b:=n.2) (n1.lt a2) n2 (e.kd 0) (c:=2 * X) (by have:=n1.at a2 a3;omega);have ag:=(a1.trans n1).trans g;have fl:=g.lt n2;have fd:=g.at n2 n3;generalize n.1.agree a.2 n.2 (e.kd 0)=w1 at g ag fl fd ⊢;exact(ag.n (K1.run ag.i ((hE.mono ag.ext.le).app (Z5.one (s:=e.name) fl)) hD ((hd.mono hE ag.dn (z1q _)).app (JU.one (z7q fd (by omega)))) x1')).mono (by omega) (z1q _)
 split
 ·have A:=K0.A7u h hE hD hd x0;have B:=K0.dn1 h hE hD hd;simp only;generalize J2 R w (e.kd 0) (A8+1) l=a at A B ⊢;obtain⟨a1,a2,a3⟩:=A;split
  ·exact(a1.n ((K1.up d0).run a1.i ((hE.mono a1.ext.le).app (Z5.one a2)) (by omega) ((hd.mono hE a1.dn d0).app (JU.one B)) x1)).mono (by omega) (z1q _)
  ·obtain⟨-,q2⟩:=BS a1.i (n:=a.2) (A8:=A8) a2;have C:=A86 a1.i (n:=a.2) (A8:=A8) a2;generalize a.1.above a.2 A8=q at q2 C ⊢;have v:=A93 C q2;have av:=a1.trans v;exact(av.n ((K1.up d0).run v.i ((hE.mono av.ext.le).app λx hx=>by rw[z6q.1 hx];exact⟨v.lt a2,q2.1⟩) (by omega) ((hd.mono hE av.dn d0).app (JU.one (v.at a2 B))) x1)).mono (by omega) (z1q _)
 ·have A:=K0.run h hE hD hd x0;have B:=K0.dn h hE hD hd;simp only;generalize J2 R w (e.kd 0) A8 l=a at A B ⊢;obtain⟨a1,a2,a3⟩:=A;exact(a1.n ((K1.up d0).run a1.i ((hE.mono a1.ext.le).app (Z5.one a2)) (by omega) ((hd.mono hE a1.dn d0).app (JU.one B)) x1)).mono (by omega) (z1q _)
theorem B9O(K0:KC R A8 D c0 (e.kd 0))(K1:KC R A8 D c1 (e.kd 1))(hA:CZ D e)(ha:e.a.E8≠0->e.a.rc)(hb:e.b.E8≠0->e.b.rc)(x0:c0 * D<=X)(x1:c1 * D<=X)(hX:D<=X):GN w (SA R w e A8 l) (3 * ((e.kd 0).size * X)+3 * ((e.kd 1).size * X)) X:=by
 have lb:A8+1<2 ^ 31:=by have:=K0.lv;omega
 have s0:=UE (e.kd 0) X;have s1:=UE (e.kd 1) X;have ann:=hA.a;have bnn:=hA.b;unfold SA;simp only;have P:=A2V h (A8:=A8+1) ha lb;generalize w.Y0 e.a (A8+1)=p at P ⊢;obtain⟨p1,p2,p3⟩:=P;have Q:=A2V p1.i (A8:=A8+1) hb lb;generalize p.1.Y0 e.b (A8+1)=r at Q ⊢;obtain⟨r1,r2,r3⟩:=Q;have F:=lF r1.i (k:=9) (x:=p.2) (y:=r.2) (r:=D) (.inr (.inr rfl)) (r1.lt p2) (λ_=>r2) (by have:=r1.at p2 p3;omega);generalize r.1.made 9 p.2 r.2=f at F ⊢;obtain⟨f1,f2,f3⟩:=F;have pf:=(p1.trans r1).trans f1;have pd:=f1.at (r1.lt p2) (r1.at p2 p3);have B:=K0.A7u (l:=l++[⟨e.name,f.2,[]⟩,⟨e.arg,p.2,[]⟩]) f1.i ((hE.mono pf.ext.le).app λx hx=>by
  simp only[zeq,znq,or_false]at hx;rcases hx with rfl | rfl
  ·exact⟨f2,by simp⟩
  ·exact⟨f1.lt (r1.lt p2),by simp⟩) hD ((hd.mono hE pf.dn (z1q _)).app λx hx=>by
  simp only[zeq,znq,or_false]at hx;rcases hx with rfl | rfl
  ·exact f3
  ·exact z7q pd (by omega)) x0
 generalize J2 R f.1 (e.kd 0) (A8+1) (l++[⟨e.name,f.2,[]⟩,⟨e.arg,p.2,[]⟩])=b at B ⊢;obtain⟨b1,b2,b3⟩:=B;have g:=Ea b1.i (a:=b.2) (b:=r.2) b2 (b1.lt (f1.lt r2)) (e.kd 0) (c:=2 * X) (by have:=b1.at (f1.lt r2) (f1.at r2 r3);omega);generalize b.1.agree b.2 r.2 (e.kd 0)=w1 at g ⊢;have pg:=(pf.trans b1).trans g;have fl:=g.lt (b1.lt f2);have fd:=g.at (b1.lt f2) (b1.at f2 f3);split
 ·exact(pg.n (K1.run pg.i ((hE.mono pg.ext.le).app (Z5.one fl)) hD ((hd.mono hE pg.dn (z1q _)).app (JU.one fd)) x1)).mono (by omega) (z1q _)
 ·obtain⟨-,q2⟩:=BS g.i (n:=f.2) (A8:=A8) fl;have C:=A86 g.i (n:=f.2) (A8:=A8) fl;generalize w1.above f.2 A8=q at q2 C ⊢;have v:=A93 C q2;have av:=pg.trans v;exact(av.n (K1.run v.i ((hE.mono av.ext.le).app λx hx=>by rw[z6q.1 hx];exact⟨v.lt fl,q2.1⟩) hD ((hd.mono hE av.dn (z1q _)).app (JU.one (v.at fl fd))) x1)).mono (by omega) (z1q _)
theorem B7L(K0:KC R A8 D c0 (e.kd 0))(K1:KC R A8 D c1 (e.kd 1))(K2:KC R A8 D c2 (e.kd 2))(x0:c0 * D<=X)(x1:c1 * D<=X)(x2:c2 * D<=X):GN w (ML R w e A8 l) (3 * ((e.kd 0).size * X)+3 * ((e.kd 1).size * X)+3 * ((e.kd 2).size * X)) X:=by
 have lb:A8<2 ^ 31:=by have:=K0.lv;omega
 have s0:=UE (e.kd 0) X;have s1:=UE (e.kd 1) X;have s2:=UE (e.kd 2) X;unfold ML;simp only;have A:=K0.run h hE hD hd x0;generalize J2 R w (e.kd 0) A8 l=c at A ⊢;obtain⟨q1,q2,q3⟩:=A;have f5:=q1.i.ok.five;have g0:=Ea q1.i (a:=c.2) (b:=1) q2 (by omega) (e.kd 0) (c:=X) (by rw[BP q1.i.ok (j:=1) (by omega)];exact q3);have cg:=q1.trans g0;generalize c.1.agree c.2 1 (e.kd 0)=w0 at g0 cg ⊢;have A:=K1.run cg.i (hE.mono cg.ext.le) hD (hd.mono hE cg.dn (z1q _)) x1;generalize J2 R w0 (e.kd 1) A8 l=a at A ⊢;obtain⟨a1,a2,a3⟩:=A;have ca:=cg.trans a1;have B:=K2.run ca.i (hE.mono ca.ext.le) hD (hd.mono hE ca.dn (z1q _)) x2;generalize J2 R a.1 (e.kd 2) A8 l=b at B ⊢;obtain⟨b1,b2,b3⟩:=B;have V:=Qy b1.i lb;generalize b.1.fresh A8=v at V ⊢;obtain⟨v1,v2,v3⟩:=V;have t1:=qA v1 (l:=[v.2]) (by simpa using v2);have al:a.2<(v.1.Y1 [v.2]).s.l.length:=v1.lt (b1.lt a2);have ad:(v.1.Y1 [v.2]).s.dn a.2<=X:=v1.at (b1.lt a2) (b1.at a2 a3);have bl:b.2<(v.1.Y1 [v.2]).s.l.length:=v1.lt b2;have bd:(v.1.Y1 [v.2]).s.dn b.2<=X:=v1.at b2 b3;have vl:v.2<(v.1.Y1 [v.2]).s.l.length:=v2;have vd:(v.1.Y1 [v.2]).s.dn v.2<=0:=v3;generalize v.1.Y1 [v.2]=w1 at t1 al ad bl bd vl vd ⊢;have g1:=Ea t1.i (a:=a.2) (b:=v.2) al vl (e.kd 1) (c:=X) (by omega);have bl':=g1.lt bl;have bd':=g1.at bl bd;have vl':=g1.lt vl;have vd':=g1.at vl vd;generalize w1.agree a.2 v.2 (e.kd 1)=w2 at g1 bl' bd' vl' vd' ⊢;have g2:=Ea g1.i (a:=b.2) (b:=v.2) bl' vl' (e.kd 2) (c:=X) (by omega);exact⟨((((ca.trans b1).trans t1).trans g1).trans g2).mono (by omega),g2.lt vl',z7q (g2.at vl' vd') (zfq _)⟩
end
theorem B1W{R:Rec}{A8 D X c r v:Nat}{l:List EN}(hD:1<=D)(hX:c * D<=X)(hl:A8<2 ^ 31):∀(rs:List (F5×Ex))(w:W),(∀a∈rs,KC R A8 D c a.2/\a.1.pat=true)->j5 w->Z5 w.s.l.length l->JU w.s l D->v<w.s.l.length->r<w.s.l.length->w.s.dn v=0->w.s.dn r=0->GN w (Ci R A8 l v r rs w) (3 * ((rs.map λa=>a.2.size).sum * X)) X
 |[],w,_,h,hE,hd,hv,hr,v0,r0=>⟨(GC.refl h).mono (zfq _),hr,by simp only[Ci];omega⟩
 | (p,k)::rs,w,ha,h,hE,hd,hv,hr,v0,r0=>by
   obtain⟨K,h3⟩:=ha _ (z4q ..);have sk:=UE k X;rw[Ci];split
   ·exact⟨(GC.refl h).mono (zfq _),by have:=h.ok.five;simp only;omega,by simp only;rw[BP h.ok (by omega)];omega⟩
   ·rename_i g;simp only;have P:=B21 hl p v ⟨w.s,[],[],P7⟩ h.ok hv v0 h3;generalize BA A8 p v ⟨w.s,[],[],P7⟩=q at P ⊢;have g0:Good w ({ w with s:=q.1.s }:W):=h.s (w':={ w with s:=q.1.s }) P.g.ok P.g.ext rfl rfl rfl;have hs:(({ w with s:=q.1.s }:W).fails q.2 q.1.bad).s=q.1.s:=X9 ..;have g1:GC w (({ w with s:=q.1.s }:W).fails q.2 q.1.bad) 0:=⟨g0.fails q.2 q.1.bad,by rw[hs];exact P.dn,aH (Classical.not_not.1 g) (by have:=P.cost;simp only at this;omega)⟩;generalize ({ w with s:=q.1.s }:W).fails q.2 q.1.bad=w1 at g1 hs ⊢;have Io:Z5 w1.s.l.length (l++if q.2≠0 then[]else List.zipWith (λs n=>(⟨s,n,[]⟩:EN)) q.1.names q.1.nodes):=by
     refine(hE.mono g1.ext.le).app ?_;split
     ·intro x hx;cases hx
     ·intro x hx;obtain⟨j,hj,rfl⟩:=zlq.1 hx;simp only[zAq]at hj;rw[zyq];exact⟨by rw[hs];exact P.g.nd (by simp) _ (z8q (by omega)),by simp⟩
    have C0e:JU w1.s (l++if q.2≠0 then[]else List.zipWith (λs n=>(⟨s,n,[]⟩:EN)) q.1.names q.1.nodes) D:=by
     refine(hd.mono hE g1.dn (z1q _)).app ?_;split
     ·intro x hx;cases hx
     ·intro x hx;obtain⟨j,hj,rfl⟩:=zlq.1 hx;simp only[zAq]at hj;rw[zyq];have:q.1.s.dn (q.1.nodes[j]'(by omega))=0:=P.nd (by simp) _ (z8q (by omega));simp only;rw[hs,this];exact zfq _
    have B:=K.run g1.i Io hD C0e hX;generalize J2 R w1 k A8 (l++if q.2≠0 then[]else List.zipWith (λs n=>(⟨s,n,[]⟩:EN)) q.1.names q.1.nodes)=b at B ⊢;obtain⟨b1,b2,b3⟩:=B;have gb:=g1.trans b1;have g2:=Ea b1.i (a:=b.2) (b:=r) b2 (gb.lt hr) k (c:=X) (by have:=gb.dn r hr;omega);have gg:=gb.trans g2;have A:=B1W hD hX hl rs _ (λa h=>ha a (z2q _ h)) g2.i (hE.mono gg.ext.le) (hd.mono hE gg.dn (z1q _)) (gg.lt hv) (gg.lt hr) ((gg.dn v hv).trans v0) ((gg.dn r hr).trans r0);refine(gg.n A).mono ?_ (z1q _);rw[zdq,zgq,zcq];simp only;omega
theorem B6B{R:Rec}{w:W}{A8 D X c:Nat}{l:List EN}(hD:1<=D)(h:j5 w)(hE:Z5 w.s.l.length l)(hd:JU w.s l D){e:Ex}(hX:c * D<=X)(K0:KC R A8 D c (e.kd 0))(hk:∀k∈e.D5,KC R A8 D c k)(hp:∀p∈e.J7,p.pat=true)(hn:e.D5.length=e.J7.length+1):GN w (Ip R w e A8 l) (3 * ((e.D5.map Ex.size).sum * X)) X:=by
 have lb:A8<2 ^ 31:=by have:=K0.lv;omega
 have s0:=UE (e.kd 0) X;unfold Ip;simp only;have A:=K0.run h hE hD hd hX;generalize J2 R w (e.kd 0) A8 l=a at A ⊢;obtain⟨a1,a2,a3⟩:=A;have V:=Qy a1.i lb;generalize a.1.fresh A8=v at V ⊢;obtain⟨v1,v2,v3⟩:=V;have g:=Ea v1.i (a:=a.2) (b:=v.2) (v1.lt a2) v2 (e.kd 0) (c:=X) (by have:=v1.at a2 a3;omega);have vl:=g.lt v2;have vd:=g.at v2 v3;generalize v.1.agree a.2 v.2 (e.kd 0)=w0 at g vl vd ⊢;have Q:=Qy g.i lb;generalize w0.fresh A8=r at Q ⊢;obtain⟨r1,r2,r3⟩:=Q;have t:=qA r1 (l:=[v.2,r.2]) (by intro x hx;simp only[zeq,znq,or_false]at hx;rcases hx with rfl | rfl;exact r1.lt vl;exact r2);have gg:=(((a1.trans v1).trans g).trans t);have B:=B1W (R:=R) (A8:=A8) (l:=l) (v:=v.2) (r:=r.2) hD hX lb (e.J7.zip e.D5.tail) _ (λx hx=>by have:=zmq hx;exact⟨hk x.2 (zGq this.2),hp x.1 this.1⟩) t.i (hE.mono gg.ext.le) (hd.mono hE gg.dn (z1q _)) (t.lt vl) r2 (y5q.1 (t.at vl vd)) (y5q.1 r3)
 refine(gg.n B).mono ?_ (z1q _);have e1:((e.J7.zip e.D5.tail).map λa=>a.2.size)=e.D5.tail.map Ex.size:=by
  have e1:((e.J7.zip e.D5.tail).map λa=>a.2.size)=((e.J7.zip e.D5.tail).map Prod.snd).map Ex.size:=by rw[zBq];rfl
  rw[e1,List.map_snd_zip (by rw[List.length_tail];omega)]
 rw[e1]
 match hk:e.D5,hn with
 |k::ks,_=>
   have e2:e.kd 0=k:=by simp[Ex.kd,hk]
   rw[e2]at s0 ⊢;simp only[List.tail_cons,zdq,zgq];rw[zcq];omega
theorem B5S{R:Rec}{A8 D X c:Nat}{l:List EN}(hD:1<=D)(hX:c * D<=X){want:Nat}(hw:want<4):∀(ks:List Ex)(w:W),(∀k∈ks,KC R A8 D c k)->j5 w->Z5 w.s.l.length l->JU w.s l D->GC w (FE R A8 l want ks w) (3 * ((ks.map Ex.size).sum * X))
 |[],w,_,h,_,_=>(GC.refl h).mono (zfq _)
 |k::ks,w,hk,h,hE,hd=>by have K:=hk k (z4q ..);have sk:=UE k X;obtain⟨a1,a2,a3⟩:=K.run h hE hD hd hX;rw[FE];have f5:=a1.i.ok.five;have g:=Ea a1.i (a:=(J2 R w k A8 l).2) (b:=want) a2 (by omega) k (c:=X) (by rw[BP a1.i.ok hw];exact a3);have ag:=a1.trans g;refine(ag.trans (B5S hD hX hw ks _ (λx hx=>hk x (z2q _ hx)) g.i (hE.mono ag.ext.le) (hd.mono hE ag.dn (z1q _)))).mono ?_;rw[zdq,zgq,zcq];omega
section
def RCo(R:Rec)(e:Ex):Prop:=∃c,Cx e.size c/\yD R e c
variable {e:Ex}
def sz1(h:e.D5.length=1):e.size=1+(e.kd 0).size:=by
 rw[Ex.size_eq]
 match hk:e.D5,h with
 |[a],_=>simp[Ex.kd,hk]
def sz2(h:e.D5.length=2):e.size=(e.kd 0).size+(e.kd 1).size+1:=by
 rw[Ex.size_eq]
 match hk:e.D5,h with
 |[a,c],_=>simp[Ex.kd,hk];omega
def sz3(h:e.D5.length=3):e.size=(e.kd 0).size+(e.kd 1).size+(e.kd 2).size+1:=by
 rw[Ex.size_eq]
 match hk:e.D5,h with
 |[a,c,d],_=>simp[Ex.kd,hk];omega
def A74(e:Ex):1<=e.size:=by have:=e.size_eq;omega
def RCo.all{R:Rec}{n:Nat}:∀(ks:List Ex),(∀k∈ks,RCo R k/\k.size<=n)->∃c,Cx n c/\∀k∈ks,yD R k c
 |[],_=>⟨1,Cx.one n,by simp⟩
 |k::ks,h=>by
   obtain⟨⟨c,h1,h2⟩,h3⟩:=h k (z4q ..);obtain⟨d,h4,h5⟩:=RCo.all ks λx hx=>h x (z2q _ hx);refine⟨max c d,(h1.mono h3).max h4,λx hx=>?_⟩;rcases zeq.1 hx with rfl | hx
   ·exact h2.mono (zrq ..)
   ·exact(h5 x hx).mono (zkq ..)
def BC(R:Rec)(e:Ex):Prop:=∃c,Cx e.size c/\∀(A8:Nat)(l:List EN)(w:W)(D X:Nat),A8+e.size<2 ^ 30->j5 w->w.types=[]->Z5 w.s.l.length l->1<=D->CZ D e->JU w.s l D->c * D<=X->GN w (R7 R w e A8 l) (3 * (e.size * X)-2 * X) X
def B7G{R:Rec}(hr:e.right=true)(hk:∀k∈e.D5,Cw R k/\RCo R k):BC R e:=by
 obtain⟨k1,k2,k3⟩:=Ex.bY hr;have na:=Ex.lG hr;have nb:=Ex.A1H hr;have kc:∀{k:Ex}{c A8 D:Nat},k∈e.D5->yD R k c->A8+e.size<2 ^ 30->CZ D e->KC R A8 D c k:=λhm hc hl hA=>⟨(hk _ hm).1,hc,by have:=Ex.CG hm;omega,hA.kid hm⟩;have kd:∀i,i<e.D5.length->∃c,Cx (e.kd i).size c/\yD R (e.kd i) c:=λi hi=>(hk _ (Ex.CR hi)).2;have X1:∀{c D X:Nat},1<=c->1<=D->c * D<=X->D<=X/\1<=X:=λ{c D X} hc hD hX=>by have:=ztq D hc;omega
 have up:∀{c c' D X:Nat},c<=c'->c' * D<=X->c * D<=X:=λ{c c' D X} h g=>z7q (zQq D h) g;by_cases g:e.E8=1
 ·refine⟨1,Cx.one _,λA8 l w D X hl h ht hE hD hA hd hX=>?_⟩;obtain⟨x1,x2⟩:=X1 (z1q 1) hD hX;have se:=UE e X;unfold R7;rw[A9 g];exact(B8x h (by omega) hE hd ht).mono (by omega) x1
 by_cases g:e.E8=2\/e.E8=3\/e.E8=4\/e.E8=5
 ·refine⟨1,Cx.one _,λA8 l w D X hl h ht hE hD hA hd hX=>?_⟩;have f5:=h.ok.five;unfold R7;rw[A7 (by omega),A9 g];exact⟨(GC.refl h).mono (zfq _),by simp only;omega,by simp only;rw[BP h.ok (by omega)];omega⟩
 by_cases g:e.E8=6
 ·have n2:e.D5.length=2:=by simp[g,L9]at k3;omega
  obtain⟨c0,p0,q0⟩:=kd 0 (by omega);obtain⟨c1,p1,q1⟩:=kd 1 (by omega);have se:=sz2 n2;refine⟨c0+c1,by rw[se];exact p0.add p1 (A74 _) (A74 _),λA8 l w D X hl h ht hE hD hA hd hX=>?_⟩;have K0:=kc (Ex.CR (i:=0) (by omega)) q0 hl hA;have K1:=kc (Ex.CR (i:=1) (by omega)) q1 hl hA;have s0:=UE (e.kd 0) X;have s1:=UE (e.kd 1) X;unfold R7;rw[A7 (by omega),A7 (by omega),A9 g];have A:=K0.run h hE hD hd (up (zhq ..) hX);have A':=K0.dn h hE hD hd;simp only;generalize J2 R w (e.kd 0) A8 l=a at A A' ⊢;obtain⟨a1,a2,a3⟩:=A;have B:=K1.run a1.i (hE.mono a1.ext.le) hD (hd.mono hE a1.dn (z1q _)) (up (Nat.le_add_left ..) hX);have B':=K1.dn a1.i (hE.mono a1.ext.le) hD (hd.mono hE a1.dn (z1q _));generalize J2 R a.1 (e.kd 1) A8 l=b at B B' ⊢;obtain⟨b1,b2,b3⟩:=B;refine((a1.trans b1).n (lF b1.i (k:=7) (.inl rfl) (b1.lt a2) (λ_=>b2) (zVq (b1.at a2 A') B'))).mono ?_ ?_
  ·rw[se,zcq,zcq];omega
  ·rw[<- zcq];exact hX
 by_cases g:e.E8=7
 ·refine⟨1,Cx.one _,λA8 l w D X hl h ht hE hD hA hd hX=>?_⟩;unfold R7;rw[A7 (by omega),A7 (by omega),A7 (by omega),A9 g];have V:=Qy h (show A8<2 ^ 31 by omega);generalize w.fresh A8=v at V ⊢;obtain⟨v1,v2,v3⟩:=V;have t1:=qA v1 (l:=[v.2]) (by simpa using v2);have vd:(v.1.Y1 [v.2]).s.dn v.2<=0:=v3;exact(t1.n (lF t1.i (k:=8) (r:=0) (.inr (.inl rfl)) v2 (λh=>absurd rfl h) (by rw[BP t1.i.ok (j:=0) (by omega)];exact vd))).mono (by omega) (zfq _)
 by_cases g:e.E8=8
 ·have n2:e.D5.length=2:=by simp[g,L9]at k3;omega
  obtain⟨c0,p0,q0⟩:=kd 0 (by omega);obtain⟨c1,p1,q1⟩:=kd 1 (by omega);have se:=sz2 n2;refine⟨max c0 c1,(p0.mono (by omega)).max (p1.mono (by omega)),λA8 l w D X hl h ht hE hD hA hd hX=>?_⟩;have K0:=kc (Ex.CR (i:=0) (by omega)) q0 hl hA;have K1:=kc (Ex.CR (i:=1) (by omega)) q1 hl hA;unfold R7;rw[A7 (by omega),A7 (by omega),A7 (by omega),A7 (by omega),A9 g];refine(B7M hD h hE hd K0 K1 (up (zrq ..) hX) (up (zkq ..) hX)).mono ?_ (z1q _);rw[se,zcq,zcq];omega
 by_cases g:e.E8=9
 ·have n1:e.D5.length=1:=by simp[g,L9]at k3;omega
  obtain⟨c0,p0,q0⟩:=kd 0 (by omega);have se:=sz1 n1;refine⟨c0+1,by rw[se,Nat.add_comm];exact p0.succ (A74 _),λA8 l w D X hl h ht hE hD hA hd hX=>?_⟩;have K0:=kc (Ex.CR (i:=0) (by omega)) q0 hl hA;have s0:=UE (e.kd 0) X;have ann:=hA.a;unfold R7;rw[A7 (by omega),A7 (by omega),A7 (by omega),A7 (by omega),A7 (by omega),A9 g];have P:=A2V h (A8:=A8) na.1 (by omega);simp only;generalize w.Y0 e.a A8=p at P ⊢;obtain⟨r1,r2,r3⟩:=P;have hE':=(hE.mono r1.ext.le).app (Z5.one (s:=e.name) r2);have Eo:JU p.1.s (l++[⟨e.name,p.2,[]⟩]) D:=(hd.mono hE r1.dn (z1q _)).app (JU.one (by omega));have B:=K0.run r1.i hE' hD Eo (up (zhq ..) hX);have B':=K0.dn r1.i hE' hD Eo;generalize J2 R p.1 (e.kd 0) A8 (l++[⟨e.name,p.2,[]⟩])=b at B B' ⊢;obtain⟨b1,b2,b3⟩:=B;refine((r1.trans b1).n (lF b1.i (k:=9) (r:=D+c0 * D) (.inr (.inr rfl)) (b1.lt r2) (λ_=>b2) (zVq (b1.at r2 (by omega)) B'))).mono ?_ ?_
  ·rw[se,zcq];omega
  ·rw[zcq,Nat.one_mul]at hX;omega
 by_cases g:e.E8=10
 ·have n2:e.D5.length=2:=by simp[g,L9]at k3;omega
  obtain⟨c0,p0,q0⟩:=kd 0 (by omega);obtain⟨c1,p1,q1⟩:=kd 1 (by omega);have se:=sz2 n2;refine⟨max c0 c1,(p0.mono (by omega)).max (p1.mono (by omega)),λA8 l w D X hl h ht hE hD hA hd hX=>?_⟩;have K0:=kc (Ex.CR (i:=0) (by omega)) q0 hl hA;have K1:=kc (Ex.CR (i:=1) (by omega)) q1 hl hA;have x0:=up (zrq c0 c1) hX;unfold R7;rw[A7 (by omega),A7 (by omega),A7 (by omega),A7 (by omega),A7 (by omega),A7 (by omega),A9 g];refine(B9h hD h hE hd K0 K1 x0 (up (zkq ..) hX) (X1 p0.1 hD x0).2).mono ?_ (z1q _);rw[se,zcq,zcq];omega
 by_cases g:e.E8=11
 ·have n2:e.D5.length=2:=by simp[g,L9]at k3;omega
  obtain⟨c0,p0,q0⟩:=kd 0 (by omega);obtain⟨c1,p1,q1⟩:=kd 1 (by omega);have se:=sz2 n2;refine⟨c0 * c1,by rw[se];exact p0.mul p1,λA8 l w D X hl h ht hE hD hA hd hX=>?_⟩;have K0:=kc (Ex.CR (i:=0) (by omega)) q0 hl hA;have K1:=kc (Ex.CR (i:=1) (by omega)) q1 hl hA;unfold R7;rw[A7 (by omega),A7 (by omega),A7 (by omega),A7 (by omega),A7 (by omega),A7 (by omega),A7 (by omega),A9 g];refine(B9G hD h hE hd K0 K1 hA na.1 p0.1 p1.1 hX).mono ?_ (z1q _);rw[se,zcq,zcq];omega
 by_cases g:e.E8=12
 ·have n2:e.D5.length=2:=by simp[g,L9]at k3;omega
  obtain⟨c0,p0,q0⟩:=kd 0 (by omega);obtain⟨c1,p1,q1⟩:=kd 1 (by omega);have se:=sz2 n2;refine⟨max c0 c1,(p0.mono (by omega)).max (p1.mono (by omega)),λA8 l w D X hl h ht hE hD hA hd hX=>?_⟩;have K0:=kc (Ex.CR (i:=0) (by omega)) q0 hl hA;have K1:=kc (Ex.CR (i:=1) (by omega)) q1 hl hA;have x0:=up (zrq c0 c1) hX;unfold R7;rw[A7 (by omega),A7 (by omega),A7 (by omega),A7 (by omega),A7 (by omega),A7 (by omega),A7 (by omega),A7 (by omega),A9 g];refine(B9O hD h hE hd K0 K1 hA na.1 nb x0 (up (zkq ..) hX) (X1 p0.1 hD x0).1).mono ?_ (z1q _);rw[se,zcq,zcq];omega
 by_cases g:e.E8=13
 ·have n3:e.D5.length=3:=by simp[g,L9]at k3;omega
  obtain⟨c0,p0,q0⟩:=kd 0 (by omega);obtain⟨c1,p1,q1⟩:=kd 1 (by omega);obtain⟨c2,p2,q2⟩:=kd 2 (by omega);have se:=sz3 n3;refine⟨max c0 (max c1 c2),(p0.mono (by omega)).max ((p1.mono (by omega)).max (p2.mono (by omega))),λA8 l w D X hl h ht hE hD hA hd hX=>?_⟩;have K0:=kc (Ex.CR (i:=0) (by omega)) q0 hl hA;have K1:=kc (Ex.CR (i:=1) (by omega)) q1 hl hA;have K2:=kc (Ex.CR (i:=2) (by omega)) q2 hl hA;have s0:=UE (e.kd 0) X;unfold R7;rw[A7 (by omega),A7 (by omega),A7 (by omega),A7 (by omega),A7 (by omega),A7 (by omega),A7 (by omega),A7 (by omega),A7 (by omega),A9 g];refine(B7L hD h hE hd K0 K1 K2 (up (zrq ..) hX) (up (z7q (zrq c1 c2) (zkq ..)) hX) (up (z7q (zkq c1 c2) (zkq ..)) hX)).mono ?_ (z1q _);rw[se,zcq,zcq,zcq];omega
 by_cases g:e.E8=14
 ·have n1:e.D5.length=e.J7.length+1:=by simp[g,L9]at k3;omega
  obtain⟨c,p,q⟩:=RCo.all (R:=R) (n:=e.size) e.D5 λk hm=>⟨(hk k hm).2,zKq (Ex.CG hm)⟩;refine⟨c,p,λA8 l w D X hl h ht hE hD hA hd hX=>?_⟩;unfold R7;rw[A7 (by omega),A7 (by omega),A7 (by omega),A7 (by omega),A7 (by omega),A7 (by omega),A7 (by omega),A7 (by omega),A7 (by omega),A7 (by omega),A9 g];have m0:=Ex.CR (e:=e) (i:=0) (by omega);refine(B6B hD h hE hd hX (kc m0 (q _ m0) hl hA) (λk hm=>kc hm (q k hm) hl hA) (λp hp=>?_) n1).mono ?_ (z1q _)
  ·have:=Ex.A5i hr hp;unfold F5.right at this;rw[zbq]at this;exact this.1
  ·rw[e.size_eq,zcq];omega
 by_cases g:e.E8=15
 ·have n1:e.D5.length=1:=by simp[g,L9]at k3;omega
  obtain⟨c0,p0,q0⟩:=kd 0 (by omega);have se:=sz1 n1;refine⟨c0,p0.mono (by omega),λA8 l w D X hl h ht hE hD hA hd hX=>?_⟩;have K0:=kc (Ex.CR (i:=0) (by omega)) q0 hl hA;have s0:=UE (e.kd 0) X;have ann:=hA.a;obtain⟨x1,x2⟩:=X1 p0.1 hD hX;unfold R7;rw[A7 (by omega),A7 (by omega),A7 (by omega),A7 (by omega),A7 (by omega),A7 (by omega),A7 (by omega),A7 (by omega),A7 (by omega),A7 (by omega),A7 (by omega),A9 g];have A:=K0.run h hE hD hd hX;simp only;generalize J2 R w (e.kd 0) A8 l=a at A ⊢;obtain⟨a1,a2,a3⟩:=A;have N:=B1n a1.i (na.2 g);generalize a.1.put e.a=n at N ⊢;obtain⟨n1,n2,n3⟩:=N;have g:=Ea n1.i (a:=a.2) (b:=n.2) (n1.lt a2) n2 (e.kd 0) (c:=2 * X) (by have:=n1.at a2 a3;omega);refine⟨((a1.trans n1).trans g).mono ?_,g.lt n2,z7q (g.at n2 n3) (by omega)⟩;rw[se,zcq];omega
 ·obtain⟨c,p,q⟩:=RCo.all (R:=R) (n:=e.size) e.D5 λk hm=>⟨(hk k hm).2,zKq (Ex.CG hm)⟩;refine⟨c,p,λA8 l w D X hl h ht hE hD hA hd hX=>?_⟩;have f5:=h.ok.five;unfold R7;rw[A7 (by omega),A7 (by omega),A7 (by omega),A7 (by omega),A7 (by omega),A7 (by omega),A7 (by omega),A7 (by omega),A7 (by omega),A7 (by omega),A7 (by omega),A7 (by omega)];have G:=B5S (R:=R) (A8:=A8) (l:=l) hD hX (want:=if e.op=7 then 2 else 0) (by split<;>omega) e.D5 w (λk hm=>kc hm (q k hm) hl hA) h hE hd;have j:(if e.op=5\/e.op=6\/e.op=7 then 1 else 0)<4:=by split<;>omega
  refine⟨G.mono ?_,by simp only;have:=G.i.ok.five;omega,by simp only;rw[BP G.i.ok j];omega⟩;rw[e.size_eq,zcq];omega
def A9l:∀(f:Nat)(e:Ex),e.right=true->RCo (K9 f) e
 |0,e,hr=>⟨1,Cx.one _,λA8 l w D X hl h hE hD hA hd hX=>⟨AP.refl _,zhq _ _,by simp only[K9];rw[BP h.ok (by omega)];omega⟩⟩
 |f+1,e,hr=>by obtain⟨c,c1,c2⟩:=B7G (R:=K9 f) hr λk hk=>⟨LF f k (Ex.Bf hr hk),A9l f k (Ex.Bf hr hk)⟩;refine⟨c,c1,λA8 l w D X hl h hE hD hA hd hX=>?_⟩;have h0:j5 { w with types:=[],vars:=[],D5:=[] }:=⟨h.ok,by simp,⟨by simp,by simp⟩,trivial⟩;obtain⟨a1,a2,a3⟩:=c2 A8 l { w with types:=[],vars:=[],D5:=[] } D X hl h0 rfl hE hD hA hd hX;rw[K9];exact⟨a1.dn,a1.phi,a3⟩
def B6H(mx:Nat):(DX mx).uv=0:=by unfold E9.uv;rw[List.countP_eq_zero];intro d hd;obtain⟨n,hn,rfl⟩:=zJq hd;obtain⟨a,b⟩:=oO (mx:=mx) (n:=n) (z3q hn);rw[b];simp[Ms];omega
def A9P{mx D:Nat}(hr:e.right=true)(hs:e.size<=100)(hmx:mx<=65536)(hA:CZ D e)(hD:1<=D)(hD2:D<=2 ^ 12):(J5 e mx).1.s.J8+10<2 ^ 62:=by
 obtain⟨c,⟨h1,h2⟩,h3⟩:=A9l e.size e hr;have hc:c<2 ^ 41:=by
  rcases zxq c (2 ^ 41)with g | g
  ·exact g
  ·exfalso;have a:(2 ^ 41) ^ 5<=c ^ 5:=zHq g 5;have b:4 ^ (e.size+1)<=4 ^ 101:=zFq (by omega) (by omega);have:(4:Nat) ^ 101<(2 ^ 41) ^ 5:=by decide
   omega
 let w0:W:=⟨DX mx,P7,0,[],[],[]⟩
 have I:j5 w0:=⟨RA hmx,by simp[w0],⟨by simp[w0],by simp[w0]⟩,trivial⟩;obtain⟨-,b,-⟩:=h3 1 [] w0 D (c * D) (by omega) I (λx hx=>by cases hx) hD hA (λx hx=>by cases hx) (z1q _);have e0:w0.phi=5 * mx+5:=by simp only[W.phi,w0,E9.AX,B6H,F6];simp[DX]
 rw[e0]at b;have hx:(K9 e.size e 1 [] w0).1.s.J8<=(K9 e.size e 1 [] w0).1.phi:=by unfold W.phi;omega
 have e1:(J5 e mx).1=(K9 e.size e 1 [] w0).1:=rfl;rw[e1];have m1:c * D<=2 ^ 41 * 2 ^ 12:=zUq (zKq hc) hD2;have m2:e.size * (c * D)<=100 * (2 ^ 41 * 2 ^ 12):=zUq hs m1;omega
end
inductive L2{α β : Type}(R : α -> β->Prop):List α->List β->Prop
 |nil:L2 R [] []
 |cons {a : α} {b : β} {l:List α} {k:List β}:R a b->L2 R l k->L2 R (a::l) (b::k)
namespace L2
variable {α β : Type}{R Q : α -> β->Prop}{l:List α}{k:List β}
def mono(h:∀a b,R a b->Q a b)(g:L2 R l k):L2 Q l k:=by
 induction g with
 |nil=>exact .nil
 |cons a _ ih=>exact .cons (h _ _ a) ih
def len(g:L2 R l k):k.length=l.length:=by
 induction g with
 |nil=>rfl
 |cons a _ ih=>simp[ih]
def app{l2:List α}{k2:List β}(g:L2 R l k)(h:L2 R l2 k2):L2 R (l++l2) (k++k2):=by
 induction g with
 |nil=>exact h
 |cons a _ ih=>exact .cons a ih
def getD{a : α}{b : β}(g:L2 R l k)(h:R a b)(i:Nat):R (l.getD i a) (k.getD i b):=by
 induction g generalizing i with
 |nil=>exact h
 |cons x _ ih=>cases i with
   |zero=>exact x
   |succ i=>simpa using ih i
def one{a : α}{b : β}(h:R a b):L2 R [a] [b]:=.cons h .nil
def tail(g:L2 R l k):L2 R l.tail k.tail:=by cases g with | nil=>exact .nil | cons _ h=>exact h
def headD{a : α}{b : β}(g:L2 R l k)(h:R a b):R (l.headD a) (k.headD b):=by cases g with | nil=>exact h | cons x _=>exact x
end L2
def ilt{a:Int}{b c:Nat}(h:a<b)(k:b<=c):a<(c:Int):=by omega
structure TZ where
 Wd:Type
 le:Wd->Wd->Prop
 rf:∀a,le a a
 tr:∀{a b c:Wd},le a b->le b c->le a c
 T:Wd->E9->E9->Prop
 N:Wd->Nat->Nat->Prop
 nm:∀{a b:Wd}{n n':Nat},le a b->N a n n'->N b n n'
 lv:Nat->Nat->Prop
 lvs:∀{a b:Nat},lv a b->lv (a+1) (b+1)
 R6:Int
 leaf:∀(o:Wd)(j:Nat),j<5->N o j j
 tick:∀{o:Wd}{S S':E9},T o S S'->T o S.tick S'.tick
 var:∀{o:Wd}{S S':E9}{A8 lev':Nat},S.Ok->S'.Ok->T o S S'->lv A8 lev'->A8<2 ^ 31->lev'<2 ^ 31->((S.var A8).2.2≠7->(S'.var lev').2.2=(S.var A8).2.2/\∃o',le o o'/\T o' (S.var A8).1 (S'.var lev').1/\N o' (S.var A8).2.1 (S'.var lev').2.1)/\((S.var A8).2.2=7->(S'.var lev').2.2≠0\/R6<(S'.var lev').1.cnt)
 make:∀{o:Wd}{S S':E9}{k a b a' b':Nat},S.Ok->S'.Ok->T o S S'->(k=7\/k=8\/k=9)->N o a a'->(k≠8->N o b b')->((S.make k a b).2.2≠7->(S'.make k a' b').2.2=(S.make k a b).2.2/\∃o',le o o'/\T o' (S.make k a b).1 (S'.make k a' b').1/\N o' (S.make k a b).2.1 (S'.make k a' b').2.1)/\((S.make k a b).2.2=7->(S'.make k a' b').2.2≠0\/R6<(S'.make k a' b').1.cnt)
 put:∀{o:Wd}{S S':E9}{t:Ty},S.Ok->S'.Ok->T o S S'->t.rc->((S.put t).2.2≠7->(S'.put t).2.2=(S.put t).2.2/\∃o',le o o'/\T o' (S.put t).1 (S'.put t).1/\N o' (S.put t).2.1 (S'.put t).2.1)/\((S.put t).2.2=7->(S'.put t).2.2≠0\/R6<(S'.put t).1.cnt)
 agree:∀{o:Wd}{S S':E9}{a b a' b':Nat},S.Ok->S'.Ok->T o S S'->N o a a'->N o b b'->((S.agree a b).2.2.2≠7->(S'.agree a' b').2=(S.agree a b).2/\∃o',le o o'/\T o' (S.agree a b).1 (S'.agree a' b').1)/\((S.agree a b).2.2.2=7->(S'.agree a' b').2.2.2≠0\/R6<(S'.agree a' b').1.cnt)
 copy:∀{o:Wd}{S S':E9}{n n':Nat}{f f' t t':List Nat},S.Ok->S'.Ok->T o S S'->N o n n'->L2 (N o) f f'->L2 (N o) t t'->f.length<=t.length->((S.copy n f t).2.2≠7->(S'.copy n' f' t').2.2=(S.copy n f t).2.2/\∃o',le o o'/\T o' (S.copy n f t).1 (S'.copy n' f' t').1/\N o' (S.copy n f t).2.1 (S'.copy n' f' t').2.1)/\((S.copy n f t).2.2=7->(S'.copy n' f' t').2.2≠0\/R6<(S'.copy n' f' t').1.cnt)
 vars:∀{o:Wd}{S S':E9}{n n' A8 lev':Nat},S.Ok->S'.Ok->T o S S'->N o n n'->lv A8 lev'->L2 (N o) ((S.vars n).filter λv=>decide (A8<S.U8 v)) ((S'.vars n').filter λv=>decide (lev'<S'.U8 v))
 E8:∀{o:Wd}{S S':E9}{n n':Nat},S.Ok->S'.Ok->T o S S'->N o n n'->S'.F9 (S'.root n')=S.F9 (S.root n)
 D5:∀{o:Wd}{S S':E9}{n n':Nat},S.Ok->S'.Ok->T o S S'->N o n n'->L2 (N o) (S.I1 (S.root n)) (S'.I1 (S'.root n'))
 lt:∀{o:Wd}{S S':E9}{n n':Nat},S.Ok->S'.Ok->T o S S'->N o n n'->n<S.l.length/\n'<S'.l.length
section
variable (M:TZ)
mutual
def DR(o:M.Wd):DD->DD->Prop
 |.mk n ts vs ks,.mk n' ts' vs' ks'=>M.N o n n'/\L2 (M.N o) ts ts'/\L2 (M.N o) vs vs'/\KT o ks ks'
def KT(o:M.Wd):List DD->List DD->Prop
 |[],[]=>True
 |k::ks,k'::ks'=>DR o k k'/\KT o ks ks'
 |_,_=>False
end
variable {M}
mutual
theorem DR.mono{o p:M.Wd}(le:M.le o p):∀{d d':DD},DR M o d d'->DR M p d d'
 |.mk n ts vs ks,.mk n' ts' vs' ks',h=>by rw[DR]at h ⊢;exact⟨M.nm le h.1,h.2.1.mono λ_ _=>M.nm le,h.2.2.1.mono λ_ _=>M.nm le,KT.mono le h.2.2.2⟩
theorem KT.mono{o p:M.Wd}(le:M.le o p):∀{d d':List DD},KT M o d d'->KT M p d d'
 |[],[],_=>by rw[KT];trivial
 |k::ks,k'::ks',h=>by rw[KT]at h ⊢;exact⟨DR.mono le h.1,KT.mono le h.2⟩
 |[],_::_,h=>by rw[KT]at h;exact h.elim;all_goals simp
 |_::_,[],h=>by rw[KT]at h;exact h.elim;all_goals simp
end
def KT.app{o:M.Wd}:∀{a a' b b':List DD},KT M o a a'->KT M o b b'->KT M o (a++b) (a'++b')
 |[],[],b,b',_,h=>h
 |k::ks,k'::ks',b,b',h,g=>by rw[KT]at h;rw[zvq,zvq,KT];exact⟨h.1,KT.app h.2 g⟩
 |[],_::_,_,_,h,_=>by rw[KT]at h;exact h.elim;all_goals simp
 |_::_,[],_,_,h,_=>by rw[KT]at h;exact h.elim;all_goals simp
structure Al(M:TZ)(o:M.Wd)(w w':W):Prop where
 t:M.T o w.s w'.s
 e:w'.err=w.err
 b:w'.bad=w.bad
 ty:L2 (M.N o) w.types w'.types
 vs:L2 (M.N o) w.vars w'.vars
 ks:KT M o w.D5 w'.D5
structure SR(M:TZ)(o:M.Wd)(w w':W):Prop where
 i:j5 w
 i':j5 w'
 r:(w.err≠7/\Al M o w w')\/(w.err=7/\(w'.err≠0\/M.R6<w'.s.cnt))
def NR(M:TZ)(o:M.Wd)(w w':W)(n n':Nat):Prop:=n<w.s.l.length/\n'<w'.s.l.length/\(w.err≠7->M.N o n n')
structure Stp(M:TZ)(o:M.Wd)(w w':W)(o1:M.Wd)(w1 w1':W):Prop where
 le:M.le o o1
 g:Good w w1
 g':Good w' w1'
 k:w.err=7->w1.err=7
 s:SR M o1 w1 w1'
variable {o:M.Wd}{w':W}
def Stp.refl{w:W}(h:SR M o w w'):Stp M o w w' o w w':=⟨M.rf o,Good.refl h.i,Good.refl h.i',λe=>e,h⟩
def Stp.trans{a b c:M.Wd}{w x x' y y':W}(h:Stp M a w w' b x x')(k:Stp M b x x' c y y'):Stp M a w w' c y y':=⟨M.tr h.le k.le,h.g.trans k.g,h.g'.trans k.g',λe=>k.k (h.k e),k.s⟩
def NR.mono{a b:M.Wd}{w x x':W}{n n':Nat}(h:NR M a w w' n n')(k:Stp M a w w' b x x'):NR M b x x' n n':=⟨k.g.lt h.1,k.g'.lt h.2.1,λe=>M.nm k.le (h.2.2 λe7=>e (k.k e7))⟩
def Ic(M:TZ)(o:M.Wd)(w w':W)(q q':W×Nat):Prop:=∃o1,Stp M o w w' o1 q.1 q'.1/\NR M o1 q.1 q'.1 q.2 q'.2
def Stp.out{a b:M.Wd}{w x x':W}{q q':W×Nat}(h:Stp M a w w' b x x')(k:Ic M b x x' q q'):Ic M a w w' q q':=by obtain⟨c,k1,k2⟩:=k;exact⟨c,h.trans k1,k2⟩
def NR.leaf{w:W}(h:SR M o w w'){j:Nat}(hj:j<5):NR M o w w' j j:=⟨by have:=h.i.ok.five;omega,by have:=h.i'.ok.five;omega,λ_=>M.leaf o j hj⟩
def Vr(w:W)(q:E9×Nat×Nat)(b:GJ):W×Nat:=if w.err≠0 then(w,0)else(({ w with s:=q.1 }:W).fails q.2.2 b,q.2.1)
def A3x(w:W)(e:Nat)(b:GJ)(h:w.err=0):(w.fails e b).bad=if e=0\/e=7 then w.bad else b:=by
 unfold W.fails;split
 ·rename_i g;simp only
  by_cases h7:e=7
  ·rw[A7 (λh=>h h7),A9 (.inr h7)]
  ·rw[A9 h7,A7];intro h;rcases h with h | h
   ·exact g.2 h
   ·exact h7 h
 ·rename_i g;have:e=0:=Classical.not_not.1 λh2=>g ⟨h,h2⟩;rw[A9 (.inl this)]
def A1f(w:W)(e:Nat)(b:GJ):(w.fails e b).types=w.types/\(w.fails e b).vars=w.vars/\(w.fails e b).D5=w.D5:=by unfold W.fails;split<;>exact⟨rfl,rfl,rfl⟩
def Al.mono{p:M.Wd}{w:W}{S S':E9}(h:Al M o w w')(le:M.le o p)(t:M.T p S S'):Al M p { w with s:=S } { w' with s:=S' }:=⟨t,h.e,h.b,h.ty.mono λ_ _=>M.nm le,h.vs.mono λ_ _=>M.nm le,h.ks.mono le⟩
def Al.fails{w:W}(h:Al M o w w')(e:Nat)(b:GJ):Al M o (w.fails e b) (w'.fails e b):=by
 obtain⟨a1,a2,a3⟩:=A1f w e b;obtain⟨c1,c2,c3⟩:=A1f w' e b;refine⟨by rw[X9,X9];exact h.t,?_,?_,by rw[a1,c1];exact h.ty,by rw[a2,c2];exact h.vs,by rw[a3,c3];exact h.ks⟩
 ·by_cases e0:w.err=0
  ·rw[EB _ _ _ e0,EB _ _ _ (h.e.trans e0)]
  ·rw[Uu _ _ _ e0,Uu _ _ _ (by rw[h.e];exact e0)];exact h.e
 ·by_cases e0:w.err=0
  ·rw[A3x _ _ _ e0,A3x _ _ _ (h.e.trans e0),h.b]
  ·have f1:w.fails e b=w:=by unfold W.fails;rw[A7 λg=>e0 g.1]
   have f2:w'.fails e b=w':=by unfold W.fails;rw[A7 λg=>e0 (h.e.symm.trans g.1)]
   rw[f1,f2];exact h.b
def lift{w:W}{q q':E9×Nat×Nat}{b b':GJ}(H:SR M o w w')(G:Good w (Vr w q b).1/\(Vr w q b).2<(Vr w q b).1.s.l.length)(G':Good w' (Vr w' q' b').1/\(Vr w' q' b').2<(Vr w' q' b').1.s.l.length)(hO:w.err=0->Al M o w w'->(q.2.2≠7->b'=b/\q'.2.2=q.2.2/\∃o',M.le o o'/\M.T o' q.1 q'.1/\M.N o' q.2.1 q'.2.1)/\(q.2.2=7->q'.2.2≠0\/M.R6<q'.1.cnt)):Ic M o w w' (Vr w q b) (Vr w' q' b'):=by
 rcases H.r with⟨h7,A⟩ | ⟨h7,p⟩
 ·by_cases e0:w.err=0
  ·obtain⟨h1,h2⟩:=hO e0 A;have QF:w'.err=0:=A.e.trans e0;unfold Vr at G G' ⊢;rw[A7 (λg=>g e0)]at G ⊢;rw[A7 (λg=>g QF)]at G' ⊢;by_cases q7:q.2.2=7
   ·have ew:(({ w with s:=q.1 }:W).fails q.2.2 b).err=7:=by rw[EB _ _ _ (by exact e0)];exact q7
    refine⟨o,⟨M.rf o,G.1,G'.1,λh=>absurd h h7,⟨G.1.i,G'.1.i,.inr ⟨ew,?_⟩⟩⟩,G.2,G'.2,λh=>absurd ew h⟩;rcases h2 q7 with h | h
    ·exact .inl (by rw[EB _ _ _ (by exact QF)];exact h)
    ·exact .inr (by rw[X9];exact h)
   ·obtain⟨hb,he,o',l1,t1,n1⟩:=h1 q7;rw[hb,he]at G' ⊢;have ew:(({ w with s:=q.1 }:W).fails q.2.2 b).err≠7:=by rw[EB _ _ _ (by exact e0)];exact q7
    exact⟨o',⟨l1,G.1,G'.1,λh=>absurd h h7,⟨G.1.i,G'.1.i,.inl ⟨ew,(A.mono l1 t1).fails _ _⟩⟩⟩,G.2,G'.2,λ_=>n1⟩
  ·have QF:w'.err≠0:=by rw[A.e];exact e0
   unfold Vr;rw[A9 e0,A9 QF];exact⟨o,Stp.refl H,NR.leaf H (by omega)⟩
 ·have e0:w.err≠0:=by omega
  have G2:=G'.1.ext.cnt;unfold Vr at G ⊢;rw[A9 e0]at G ⊢;refine⟨o,⟨M.rf o,G.1,G'.1,λh=>h,⟨H.i,G'.1.i,.inr ⟨h7,?_⟩⟩⟩,G.2,G'.2,λh=>absurd h7 h⟩;by_cases e1:w'.err≠0
  ·rw[A9 e1];exact .inl e1
  ·rcases p with p | p
   ·exact absurd p e1
   ·exact .inr (ilt p G2)
def RI{w:W}{A8 lev':Nat}(H:SR M o w w')(L:M.lv A8 lev')(l1:A8<2 ^ 31)(l2:lev'<2 ^ 31):Ic M o w w' (w.fresh A8) (w'.fresh lev') :=lift (q:=w.s.var A8) (q':=w'.s.var lev') (b:=P7) (b':=P7) H (Ab H.i l1) (Ab H.i' l2) λ_ A=>by obtain⟨a,c⟩:=M.var H.i.ok H.i'.ok A.t L l1 l2;exact⟨λh=>⟨rfl,a h⟩,c⟩
def lQ{w:W}{k a b a' b':Nat}(H:SR M o w w')(hk:k=7\/k=8\/k=9)(ha:NR M o w w' a a')(hb:k≠8->NR M o w w' b b'):Ic M o w w' (w.made k a b) (w'.made k a' b') :=lift (q:=w.s.make k a b) (q':=w'.s.make k a' b') (b:=P7) (b':=P7) H (EF H.i hk ha.1 λh=>(hb h).1) (EF H.i' hk ha.2.1 λh=>(hb h).2.1) λe0 A=>by obtain⟨x,c⟩:=M.make H.i.ok H.i'.ok A.t hk (ha.2.2 (by omega)) (λh=>(hb h).2.2 (by omega));exact⟨λh=>⟨rfl,x h⟩,c⟩
def B1o{w:W}{t:Ty}(H:SR M o w w')(ht:t.rc):Ic M o w w' (w.put t) (w'.put t) :=lift (q:=w.s.put t) (q':=w'.s.put t) (b:=P7) (b':=P7) H (Qf H.i ht) (Qf H.i' ht) λe0 A=>by obtain⟨x,c⟩:=M.put H.i.ok H.i'.ok A.t ht;exact⟨λh=>⟨rfl,x h⟩,c⟩
def Gh{w:W}{a b a' b':Nat}(H:SR M o w w')(e:Ex)(ha:NR M o w w' a a')(hb:NR M o w w' b b'):∃o1,Stp M o w w' o1 (w.agree a b e) (w'.agree a' b' e):=by
 have g:=U3 H.i ha.1 hb.1 e;have g':=U3 H.i' ha.2.1 hb.2.1 e;have e1:∀(w:W)(a b:Nat),w.agree a b e=(Vr w ((w.s.agree a b).1,0,(w.s.agree a b).2.2.2) ⟨e.lo,e.hi,(w.s.agree a b).2.2.2,(w.s.agree a b).2.1,(w.s.agree a b).2.2.1,Y4⟩).1:=by intro w a b;unfold W.agree Vr;split<;>rfl
 have e2:∀(w:W)(a b:Nat),(Vr w ((w.s.agree a b).1,0,(w.s.agree a b).2.2.2) ⟨e.lo,e.hi,(w.s.agree a b).2.2.2,(w.s.agree a b).2.1,(w.s.agree a b).2.2.1,Y4⟩).2=0:=by intro w a b;unfold Vr;split<;>rfl
 rw[e1]at g g' ⊢;rw[e1 w'];obtain⟨o1,h,-⟩:=lift (b:=⟨e.lo,e.hi,(w.s.agree a b).2.2.2,(w.s.agree a b).2.1,(w.s.agree a b).2.2.1,Y4⟩) (b':=⟨e.lo,e.hi,(w'.s.agree a' b').2.2.2,(w'.s.agree a' b').2.1,(w'.s.agree a' b').2.2.1,Y4⟩) H ⟨g,by rw[e2];have:=g.i.ok.five;omega⟩ ⟨g',by rw[e2];have:=g'.i.ok.five;omega⟩ λe0 A=>by obtain⟨x,c⟩:=M.agree H.i.ok H.i'.ok A.t (ha.2.2 (by omega)) (hb.2.2 (by omega));refine⟨λh=>?_,c⟩;obtain⟨y1,o',y2,y3⟩:=x h;exact⟨by rw[y1],by rw[y1],o',y2,y3,M.leaf _ 0 (by omega)⟩
 exact⟨o1,h⟩
end
namespace L2
variable {α β : Type}{R : α -> β->Prop}{l:List α}{k:List β}
def rev(g:L2 R l k):L2 R l.reverse k.reverse:=by
 induction g with
 |nil=>exact .nil
 |cons a _ ih=>rw[y1q,y1q];exact ih.app (.one a)
def find{p : α->Bool}{q : β->Bool}(g:L2 R l k)(h:∀a b,R a b->p a=q b):(l.find? p=none/\k.find? q=none)\/∃a b,l.find? p=some a/\k.find? q=some b/\R a b:=by
 induction g with
 |nil=>exact .inl ⟨rfl,rfl⟩
 | @cons a b l k x _ ih=>
   rw[zLq,zLq,<- h a b x];cases p a with
   |true=>exact .inr ⟨a,b,rfl,rfl,x⟩
   |false=>exact ih
end L2
section
variable {M:TZ}{o o1:M.Wd}{w w' x x':W}
def Stp.types(h:Stp M o w w' o1 x x'){l l':List Nat}(hl:∀a∈l,a<x.s.l.length)(ZI:∀a∈l',a<x'.s.l.length)(hr:x.err≠7->L2 (M.N o1) l l'):Stp M o w w' o1 (x.Y1 l) (x'.Y1 l') :=
 ⟨h.le,Dm h.g hl,Dm h.g' ZI,h.k,⟨(Dm h.g hl).i,(Dm h.g' ZI).i,by
   rcases h.s.r with⟨h7,A⟩ | h
   ·exact .inl ⟨h7,A.t,A.e,A.b,hr h7,A.vs,A.ks⟩
   ·exact .inr h⟩⟩
def Stp.vars(h:Stp M o w w' o1 x x'){l l':List Nat}(hl:(∀a∈l,a<x.s.l.length)/\l.length<2 ^ 29)(ZI:(∀a∈l',a<x'.s.l.length)/\l'.length<2 ^ 29)(hr:x.err≠7->L2 (M.N o1) l l'):Stp M o w w' o1 (x.RU l) (x'.RU l') :=
 ⟨h.le,Hz h.g hl,Hz h.g' ZI,h.k,⟨(Hz h.g hl).i,(Hz h.g' ZI).i,by
   rcases h.s.r with⟨h7,A⟩ | h
   ·exact .inl ⟨h7,A.t,A.e,A.b,A.ty,hr h7,A.ks⟩
   ·exact .inr h⟩⟩
def Stp.one(h:Stp M o w w' o1 x x'){n n':Nat}(hn:NR M o1 x x' n n'):Stp M o w w' o1 (x.Y1 [n]) (x'.Y1 [n']) :=h.types (by intro a ha;rw[z6q.1 ha];exact hn.1) (by intro a ha;rw[z6q.1 ha];exact hn.2.1) λe=>.one (hn.2.2 e)
def Ic.tell{q q':W×Nat}(h:Ic M o w w' q q'):Ic M o w w' (W.tell q) (W.tell q'):=by
 obtain⟨o1,s,n⟩:=h;refine⟨o1,s.types ?_ ?_ λe=>?_,n⟩
 ·intro a ha;rcases zaq.1 ha with ha | ha
  ·exact s.s.i.ty a ha
  ·rw[z6q.1 ha];exact n.1
 ·intro a ha;rcases zaq.1 ha with ha | ha
  ·exact s.s.i'.ty a ha
  ·rw[z6q.1 ha];exact n.2.1
 ·rcases s.s.r with⟨-,A⟩ | h
  ·exact A.ty.app (.one (n.2.2 e))
  ·exact absurd h.1 e
variable {A8:Nat}
def A2X(H:SR M o w w'){t:Ty}{lev':Nat}(ht:t.E8≠0->t.rc)(L:M.lv A8 lev')(l1:A8<2 ^ 31)(l2:lev'<2 ^ 31):Ic M o w w' (w.Y0 t A8) (w'.Y0 t lev'):=by
 unfold W.Y0;split
 ·rename_i g;exact B1o H (ht g)
 ·exact(RI H L l1 l2).tell
def B6U(H:SR M o w w'){n n' lev':Nat}(hn:NR M o w w' n n')(L:M.lv A8 lev'):Stp M o w w' o (w.above n A8).1 (w'.above n' lev').1/\(w.err≠7->L2 (M.N o) (w.above n A8).2 (w'.above n' lev').2):=by
 obtain⟨g,-⟩:=BS H.i (n:=n) (A8:=A8) hn.1;obtain⟨g',-⟩:=BS H.i' (n:=n') (A8:=lev') hn.2.1;refine⟨⟨M.rf o,g,g',λh=>h,⟨g.i,g'.i,?_⟩⟩,λe=>?_⟩
 ·rcases H.r with⟨h7,A⟩ | h
  ·exact .inl ⟨h7,M.tick A.t,A.e,A.b,A.ty,A.vs,A.ks⟩
  ·exact .inr h
 ·rcases H.r with⟨h7,A⟩ | h
  ·exact M.vars H.i.ok H.i'.ok A.t (hn.2.2 e) L
  ·exact absurd h.1 e
def B3b{A8 lev':Nat}(L:M.lv A8 lev')(l1:A8<2 ^ 31)(l2:lev'<2 ^ 31):∀(k:Nat){o:M.Wd}{w w':W},SR M o w w'->∃o1,Stp M o w w' o1 (W.many A8 k w) (W.many lev' k w')
 |0,o,w,w',H=>⟨o,Stp.refl H⟩
 |k+1,o,w,w',H=>by obtain⟨o1,s,-⟩:=(RI H L l1 l2).tell;obtain⟨o2,s2⟩:=B3b L l1 l2 k s.s;exact⟨o2,s.trans s2⟩
def ER(M:TZ)(o:M.Wd)(w w':W)(l l':List EN):Prop:=Z5 w.s.l.length l/\Z5 w'.s.l.length l'/\(w.err≠7->L2 (λa b=>a.name=b.name/\M.N o a.node b.node/\L2 (M.N o) a.vars b.vars) l l')
def ER.mono{l l':List EN}(h:ER M o w w' l l')(s:Stp M o w w' o1 x x'):ER M o1 x x' l l':=⟨h.1.mono s.g.ext.le,h.2.1.mono s.g'.ext.le,λe=>(h.2.2 λe7=>e (s.k e7)).mono λa b g=>⟨g.1,M.nm s.le g.2.1,g.2.2.mono λ_ _=>M.nm s.le⟩⟩
def ER.app{l l' k k':List EN}(h:ER M o w w' l l')(g:ER M o w w' k k'):ER M o w w' (l++k) (l'++k'):=⟨h.1.app g.1,h.2.1.app g.2.1,λe=>(h.2.2 e).app (g.2.2 e)⟩
variable {s:ByteArray}
def ER.one{n n':Nat}(h:NR M o w w' n n'):ER M o w w' [⟨s,n,[]⟩] [⟨s,n',[]⟩]:=⟨Z5.one h.1,Z5.one h.2.1,λe=>.one ⟨rfl,h.2.2 e,.nil⟩⟩
def ER.vs{n n':Nat}{v v':List Nat}(h:NR M o w w' n n')(hv:∀a∈v,a<w.s.l.length)(Pf:∀a∈v',a<w'.s.l.length)(hl:w.err≠7->L2 (M.N o) v v'):ER M o w w' [⟨s,n,v⟩] [⟨s,n',v'⟩]:=⟨λy hy=>by rw[z6q.1 hy];exact⟨h.1,hv⟩,λy hy=>by rw[z6q.1 hy];exact⟨h.2.1,Pf⟩,λe=>.one ⟨rfl,h.2.2 e,hl e⟩⟩
def ah{q q':W×Nat}(H:SR M o w w')(h7:w.err=7)(G:NU w q)(G':NU w' q')(k:q.1.err=7)(k':w'.err≠0->q'.1.err≠0):Ic M o w w' q q':=by
 refine⟨o,⟨M.rf o,G.1,G'.1,λ_=>k,⟨G.1.i,G'.1.i,.inr ⟨k,?_⟩⟩⟩,G.2,G'.2,λh=>absurd k h⟩;rcases H.r with⟨h,-⟩ | ⟨-,h⟩
 ·exact absurd h7 h
 ·rcases h with h | h
  ·exact .inl (k' h)
  ·exact .inr (ilt h G'.1.ext.cnt)
def A6R{A8:Nat}:∀(k:Nat)(w:W),w.err≠0->(W.many A8 k w).err=w.err
 |0,w,_=>rfl
 |k+1,w,h=>by
   have e:(w.fresh A8).1=w:=by unfold W.fresh;rw[A9 h]
   rw[W.many,A6R k _ (by simp only[W.tell,e];exact h)];simp only[W.tell,e]
def A61{e:Ex}{l:List EN}(h:w.err≠0):(w.name e A8 l).1.err=w.err:=by
 unfold W.name;split
 ·exact Uu _ _ _ h
 ·split
  ·rfl
  ·have:=A6R (A8:=A8) (w:=w);simp only;rename_i x _ _;have e1:=this x.vars.length h;rw[A9 (by rw[e1];exact h)];exact e1
def B8P{e:Ex}{lev':Nat}{l l':List EN}(H:SR M o w w')(L:M.lv A8 lev')(l1:A8<2 ^ 31)(l2:lev'<2 ^ 31)(hE:ER M o w w' l l'):Ic M o w w' (w.name e A8 l) (w'.name e lev' l'):=by
 have G:=vF H.i (e:=e) l1 hE.1;have G':=vF H.i' (e:=e) l2 hE.2.1;by_cases h7:w.err=7
 ·refine ah H h7 G G' ((A61 (by omega)).trans h7) λh=>by rw[A61 h];exact h
 ·have A:Al M o w w':=by
   rcases H.r with⟨-,A⟩ | ⟨h,-⟩
   ·exact A
   ·exact absurd h h7
  have hF:=(hE.2.2 h7).rev.find (p:=λx=>decide (x.name=e.name)) (q:=λx=>decide (x.name=e.name)) λa b h=>by rw[h.1]
  unfold W.name;rcases hF with⟨f1,f2⟩ | ⟨a,b,f1,f2,n1,n2,n3⟩
  ·rw[f1,f2];have k:(w.fails 6 ⟨e.lo,e.hi,6,0,0,e.name⟩).err≠7:=by
    by_cases e0:w.err=0
    ·rw[EB _ _ _ e0];omega
    ·rw[Uu _ _ _ e0];exact h7
   have g:=(Good.refl H.i).fails 6 ⟨e.lo,e.hi,6,0,0,e.name⟩;have g':=(Good.refl H.i').fails 6 ⟨e.lo,e.hi,6,0,0,e.name⟩;have s:SR M o (w.fails 6 ⟨e.lo,e.hi,6,0,0,e.name⟩) (w'.fails 6 ⟨e.lo,e.hi,6,0,0,e.name⟩):=⟨g.i,g'.i,.inl ⟨k,A.fails _ _⟩⟩;exact⟨o,⟨M.rf o,g,g',λh=>absurd h h7,s⟩,NR.leaf s (j:=0) (by omega)⟩
  ·rw[f1,f2];simp only;obtain⟨a1,a2⟩:=hE.1 a (by simpa using zqq f1);obtain⟨b1,b2⟩:=hE.2.1 b (by simpa using zqq f2);have hl:=n3.len;by_cases v0:a.vars=[]
   ·have v0':b.vars=[]:=z9q.1 (by rw[hl,v0];rfl);rw[A9 v0,A9 v0'];exact⟨o,Stp.refl H,a1,b1,λ_=>n2⟩
   ·have v0':b.vars≠[]:=λh=>v0 (z9q.1 (by rw[<- hl,h];rfl));rw[A7 v0,A7 v0',hl];obtain⟨o1,s⟩:=B3b L l1 l2 a.vars.length H;have ht:=Q_ (A8:=A8) a.vars.length w;have ht':=Q_ (A8:=lev') a.vars.length w';generalize W.many A8 a.vars.length w=y at s ht ⊢;generalize W.many lev' a.vars.length w'=y' at s ht' ⊢;refine s.out ?_;have cg:∀{y:W}{n:Nat}{vs:List Nat},j5 y->n<y.s.l.length->vs.length<=y.types.length->Good y (Vr y (y.s.copy n vs y.types) P7).1/\(Vr y (y.s.copy n vs y.types) P7).2<(Vr y (y.s.copy n vs y.types) P7).1.s.l.length:=by
     intro y n vs hy hn hv;unfold Vr;split
     ·exact⟨Good.refl hy,by have:=hy.ok.five;simp only;omega⟩
     ·obtain⟨c1,c2,c3⟩:=aZ hy.ok hn (from_:=vs) (to:=y.types) hv hy.ty;exact⟨(hy.s (w':={ y with s:=(y.s.copy n vs y.types).1 }) c1 c2 rfl rfl rfl).fails _ _,by rw[X9];exact c3⟩
    exact lift (q:=y.s.copy a.node a.vars y.types) (q':=y'.s.copy b.node b.vars y'.types) (b:=P7) (b':=P7) s.s (cg s.s.i (s.g.lt a1) (by omega)) (cg s.s.i' (s.g'.lt b1) (by omega)) λe0 A1=>by obtain⟨x,c⟩:=M.copy s.s.i.ok s.s.i'.ok A1.t (M.nm s.le n2) (n3.mono λ_ _=>M.nm s.le) A1.ty (by omega);exact⟨λh=>⟨rfl,x h⟩,c⟩
end
section
variable {M:TZ}
structure PR(M:TZ)(o:M.Wd)(x x':PS):Prop where
 t:M.T o x.s x'.s
 names:x'.names=x.names
 nodes:L2 (M.N o) x.nodes x'.nodes
 bad:x'.bad=x.bad
def PR.mono{o p:M.Wd}{x x':PS}{S S':E9}(h:PR M o x x')(le:M.le o p)(t:M.T p S S'):PR M p { x with s:=S } { x' with s:=S' }:=⟨t,h.names,h.nodes.mono λ_ _=>M.nm le,h.bad⟩
def PO(M:TZ)(o:M.Wd)(q q':PS×Nat):Prop:=(q.2≠7->q'.2=q.2/\∃o',M.le o o'/\PR M o' q.1 q'.1)/\(q.2=7->q'.2≠0\/M.R6<q'.1.s.cnt)
def A7k{A8 lev':Nat}(L:M.lv A8 lev')(l1:A8<2 ^ 31)(l2:lev'<2 ^ 31):∀(k:Nat){o:M.Wd}{S S':E9},S.Ok->S'.Ok->M.T o S S'->
 ((E9.fresh A8 k S).2.2≠7->(E9.fresh lev' k S').2.2=(E9.fresh A8 k S).2.2/\∃o',M.le o o'/\M.T o' (E9.fresh A8 k S).1 (E9.fresh lev' k S').1/\L2 (M.N o') (E9.fresh A8 k S).2.1 (E9.fresh lev' k S').2.1)/\((E9.fresh A8 k S).2.2=7->(E9.fresh lev' k S').2.2≠0\/M.R6<(E9.fresh lev' k S').1.cnt)
 |0,o,S,S',ok,ok',t=>⟨λ_=>⟨rfl,o,M.rf o,t,.nil⟩,λh=>by simp[E9.fresh]at h⟩
 |k+1,o,S,S',ok,ok',t=>by
   obtain⟨a,c⟩:=M.var ok ok' t L l1 l2;obtain⟨k1,-⟩:=Lg ok l1;obtain⟨k2,-⟩:=Lg ok' l2;obtain⟨-,-,-,k3,-⟩:=FR l2 k _ k2;rw[E9.fresh,E9.fresh];by_cases e7:(S.var A8).2.2=7
   ·rw[A7 (by omega)];refine⟨λh=>absurd e7 h,λ_=>?_⟩;split
    ·rcases c e7 with h | h
     ·rename_i g;exact absurd g h
     ·exact .inr (ilt h k3)
    ·exact c e7
   ·obtain⟨he,o1,OV,t1,n1⟩:=a e7;rw[he];by_cases e0:(S.var A8).2.2=0
    ·rw[A9 e0,A9 e0];obtain⟨x,y⟩:=A7k L l1 l2 k k1 k2 t1;refine⟨λh=>?_,y⟩;obtain⟨h1,o2,VX,t2,n2⟩:=x h;exact⟨h1,o2,M.tr OV VX,t2,.cons (M.nm VX n1) n2⟩
    ·rw[A7 e0,A7 e0];exact⟨λ_=>⟨rfl,o1,OV,t1,.nil⟩,λh=>absurd h e7⟩
def A7l{o:M.Wd}{x x':PS}{lo hi:Int}{a b a' b':Nat}(ok:x.s.Ok)(ok':x'.s.Ok)(P:PR M o x x')(ha:M.N o a a')(hb:M.N o b b'):PO M o (x.agree lo hi a b) (x'.agree lo hi a' b'):=by obtain⟨h,c⟩:=M.agree ok ok' P.t ha hb;refine⟨λh7=>?_,c⟩;obtain⟨e,o1,le,t⟩:=h h7;refine⟨by simp only[PS.agree];rw[e],o1,le,t,P.names,P.nodes.mono λ_ _=>M.nm le,?_⟩;simp only[PS.agree];rw[e,P.bad]
end
section
variable {M:TZ}
def A9F{o:M.Wd}{x x':PS}{A8 lev':Nat}{lo hi:Int}{n n' k many:Nat}(L:M.lv A8 lev')(l1:A8<2 ^ 31)(l2:lev'<2 ^ 31)(ok:x.s.Ok)(ok':x'.s.Ok)(hk:k=7/\many=2\/k=8/\many=1)(hn:n<x.s.l.length)(hn':n'<x'.s.l.length)(P:PR M o x x')(N:M.N o n n'):
 ((x.made A8 lo hi n k many).2.2.2≠7->(x'.made lev' lo hi n' k many).2.2.2=(x.made A8 lo hi n k many).2.2.2/\∃o',M.le o o'/\PR M o' (x.made A8 lo hi n k many).1 (x'.made lev' lo hi n' k many).1/\L2 (M.N o') (x.made A8 lo hi n k many).2.1 (x'.made lev' lo hi n' k many).2.1/\M.N o' (x.made A8 lo hi n k many).2.2.1 (x'.made lev' lo hi n' k many).2.2.1) /\
 ((x.made A8 lo hi n k many).2.2.2=7->(x'.made lev' lo hi n' k many).2.2.2≠0\/M.R6<(x'.made lev' lo hi n' k many).1.s.cnt):=by
 obtain⟨a,c⟩:=A7k L l1 l2 many ok ok' P.t;obtain⟨f1,f2,-,f4,f5,f6⟩:=FR l1 many x.s ok;obtain⟨g1,g2,-,g4,g5,g6⟩:=FR l2 many x'.s ok';have k3:k=7\/k=8\/k=9:=by omega
 have nd:∀(q:E9×List Nat×Nat),(∀y∈q.2.1,y<q.1.l.length)->q.2.1.length=many->q.2.1.getD 0 0<q.1.l.length/\q.2.1.getD (many-1) 0<q.1.l.length:=by
  intro q h1 h2;constructor
  all_goals
   rw[z5q,z3q (by omega)];exact h1 _ (z8q (by omega))
 unfold PS.made;simp only;generalize E9.fresh A8 many x.s=q at a c f1 f2 f4 f5 f6 ⊢;generalize E9.fresh lev' many x'.s=q' at a c g1 g2 g4 g5 g6 ⊢;have cont:q'.2.2=0->q'.1.cnt<=((q'.1.make k (q'.2.1.getD 0 0) (q'.2.1.getD (many-1) 0))).1.cnt/\((q'.1.make k (q'.2.1.getD 0 0) (q'.2.1.getD (many-1) 0)).2.2=0->(q'.1.make k (q'.2.1.getD 0 0) (q'.2.1.getD (many-1) 0)).1.cnt<=(({ x' with s:=(q'.1.make k (q'.2.1.getD 0 0) (q'.2.1.getD (many-1) 0)).1 }:PS).agree lo hi n' (q'.1.make k (q'.2.1.getD 0 0) (q'.2.1.getD (many-1) 0)).2.1).1.s.cnt):=λh0=>by obtain⟨n0,n1⟩:=nd q' g5 (g6 h0);obtain⟨m1,m2,m3,m4,m5,m6⟩:=Gd g1 (k:=k) (x:=q'.2.1.getD 0 0) (y:=q'.2.1.getD (many-1) 0) k3 n0 (λ_=>n1);refine⟨m6,λ_=>?_⟩;exact(aU m1 (z0q hn' (z7q g2.le m2.le)) m4).2.1.cnt
 by_cases e7:q.2.2=7
 ·rw[A9 (show q.2.2≠0 by omega)];refine⟨λh=>absurd e7 h,λ_=>?_⟩;split
  ·exact c e7
  ·rename_i h0;have h0:q'.2.2=0:=Classical.not_not.1 h0;obtain⟨y1,y2⟩:=cont h0;rcases c e7 with h | h
   ·exact absurd h0 h
   ·split
    ·exact .inr (ilt h y1)
    ·rename_i g;exact .inr (ilt h (z7q y1 (y2 (Classical.not_not.1 g))))
 ·obtain⟨he,o1,OV,t1,n1⟩:=a e7;by_cases e0:q.2.2=0
  ·have QF:q'.2.2=0:=he.trans e0;have nq:¬q.2.2≠0:=λg=>g e0;have nq':¬q'.2.2≠0:=λg=>g QF;simp only[A7 nq,A7 nq'];obtain⟨y0,y1⟩:=nd q f5 (f6 e0);obtain⟨z0,z1⟩:=nd q' g5 (g6 QF);obtain⟨a2,c2⟩:=M.make (k:=k) f1 g1 t1 k3 (n1.getD (M.leaf o1 0 (by omega)) 0) (λ_=>n1.getD (M.leaf o1 0 (by omega)) (many-1));obtain⟨m1,m2,m3,m4,m5,m6⟩:=Gd f1 (k:=k) (x:=q.2.1.getD 0 0) (y:=q.2.1.getD (many-1) 0) k3 y0 (λ_=>y1);obtain⟨p1,p2,p3,p4,p5,p6⟩:=Gd g1 (k:=k) (x:=q'.2.1.getD 0 0) (y:=q'.2.1.getD (many-1) 0) k3 z0 (λ_=>z1);obtain⟨-,ct⟩:=cont QF;generalize q.1.make k (q.2.1.getD 0 0) (q.2.1.getD (many-1) 0)=z at a2 c2 m1 m2 m3 m4 m5 m6 ⊢;generalize q'.1.make k (q'.2.1.getD 0 0) (q'.2.1.getD (many-1) 0)=z' at a2 c2 p1 p2 p3 p4 p5 p6 ct ⊢;by_cases z7:z.2.2=7
   ·rw[A9 (show z.2.2≠0 by omega)];refine⟨λh=>absurd z7 h,λ_=>?_⟩;split
    ·exact c2 z7
    ·rename_i h0;rcases c2 z7 with h | h
     ·exact absurd h h0
     ·exact .inr (ilt h (ct (Classical.not_not.1 h0)))
   ·obtain⟨hz,o2,VX,t2,n2⟩:=a2 z7;by_cases z0:z.2.2=0
    ·rw[A7 (λg=>g z0),A7 (λg=>g (hz.trans z0))];have P2:=P.mono (M.tr OV VX) t2;obtain⟨h1,h2⟩:=A7l (lo:=lo) (hi:=hi) (x:={ x with s:=z.1 }) (x':={ x' with s:=z'.1 }) m1 p1 P2 (M.nm (M.tr OV VX) N) n2;refine⟨λh=>?_,h2⟩;obtain⟨w1,o3,le3,P3⟩:=h1 h;exact⟨w1,o3,M.tr (M.tr OV VX) le3,P3,n1.mono λ_ _=>M.nm (M.tr VX le3),M.nm le3 n2⟩
    ·have nz:z.2.2≠0:=z0;have nz':z'.2.2≠0:=by rw[hz];exact z0
     simp only[A9 nz,A9 nz'];exact⟨λ_=>⟨hz,o2,M.tr OV VX,P.mono (M.tr OV VX) t2,.nil,M.leaf _ 0 (by omega)⟩,λh=>absurd h z7⟩
  ·rw[A9 e0,A9 (by rw[he];exact e0)];exact⟨λ_=>⟨he,o1,OV,P.mono OV t1,.nil,M.leaf _ 0 (by omega)⟩,λh=>absurd h e7⟩
mutual
theorem B3c{A8 lev':Nat}(L:M.lv A8 lev')(l1:A8<2 ^ 31)(l2:lev'<2 ^ 31):∀(p:F5){o:M.Wd}{nd nd':Nat}{x x':PS},x.s.Ok->x'.s.Ok->nd<x.s.l.length->nd'<x'.s.l.length->p.pat=true->PR M o x x'->M.N o nd nd'->PO M o (BA A8 p nd x) (BA lev' p nd' x')
 |.mk k lo hi name n s ks,o,nd,nd',x,x',ok,ok',hn,hn',hp,P,N=>by
   have qg:=hp;rw[F5.lK,zbq,zIq]at qg;obtain⟨h1,h2⟩:=qg;obtain⟨KV,WQ⟩:=F5.ww h1;simp only[F5.IW,F5.U7]at KV WQ h2;rw[BA,BA];by_cases k1:k=1
   ·rw[A9 k1,A9 k1];exact⟨λ_=>⟨rfl,o,M.rf o,P⟩,λh=>by simp at h⟩
   rw[A7 k1,A7 k1];by_cases k2:k=2
   ·rw[A9 k2,A9 k2];exact⟨λ_=>⟨rfl,o,M.rf o,P.t,by simp only;rw[P.names],P.nodes.app (.one N),P.bad⟩,λh=>by simp at h⟩
   rw[A7 k2,A7 k2];by_cases k7:k=7
   ·rw[A9 k7,A9 k7];obtain⟨a1,a2,a3,a4⟩:=FY ok l1 (lo:=lo) (hi:=hi) (n:=nd) (k:=7) (many:=2) (.inl ⟨rfl,rfl⟩) hn;obtain⟨b1,b2,b3,b4⟩:=FY ok' l2 (lo:=lo) (hi:=hi) (n:=nd') (k:=7) (many:=2) (.inl ⟨rfl,rfl⟩) hn';obtain⟨c1,c2⟩:=A9F (lo:=lo) (hi:=hi) L l1 l2 ok ok' (k:=7) (many:=2) (.inl ⟨rfl,rfl⟩) hn hn' P N;generalize x.made A8 lo hi nd 7 2=q at a1 a2 a3 a4 c1 c2 ⊢;generalize x'.made lev' lo hi nd' 7 2=q' at b1 b2 b3 b4 c1 c2 ⊢;have G':q'.2.2.2=0->Qo q'.1 (Dk lev' ks q'.2.1 q'.1).1:=λh=>La l2 ks q'.2.1 q'.1 b1.ok (by rw[b4 h,KV (.inl k7)];exact z1q _) b2 h2;by_cases e7:q.2.2.2=7
    ·rw[A9 (show q.2.2.2≠0 by omega)];refine⟨λh=>absurd e7 h,λ_=>?_⟩;split
     ·exact c2 e7
     ·rename_i h0;rcases c2 e7 with h | h
      ·exact absurd h h0
      ·exact .inr (ilt h (G' (Classical.not_not.1 h0)).ext.cnt)
    ·obtain⟨he,o1,OV,P1,n1,n2⟩:=c1 e7;by_cases e0:q.2.2.2=0
     ·have QF:=he.trans e0;rw[A7 (λg=>g e0),A7 (λg=>g QF)];obtain⟨y1,y2⟩:=A7m L l1 l2 ks a1.ok b1.ok (by rw[a4 e0,KV (.inl k7)];exact z1q _) (by rw[b4 QF,KV (.inl k7)];exact z1q _) a2 b2 h2 P1 n1;refine⟨λh=>?_,y2⟩;obtain⟨z1,o2,VX,P2⟩:=y1 h;exact⟨z1,o2,M.tr OV VX,P2⟩
     ·rw[A9 e0,A9 (by rw[he];exact e0)];exact⟨λ_=>⟨he,o1,OV,P1⟩,λh=>absurd h e7⟩
   rw[A7 k7,A7 k7];by_cases k89:k=8\/k=9
   ·rw[A9 k89,A9 k89];obtain⟨a1,a2,a3,a4⟩:=FY ok l1 (lo:=lo) (hi:=hi) (n:=nd) (k:=8) (many:=1) (.inr ⟨rfl,rfl⟩) hn;obtain⟨b1,b2,b3,b4⟩:=FY ok' l2 (lo:=lo) (hi:=hi) (n:=nd') (k:=8) (many:=1) (.inr ⟨rfl,rfl⟩) hn';obtain⟨c1,c2⟩:=A9F (lo:=lo) (hi:=hi) L l1 l2 ok ok' (k:=8) (many:=1) (.inr ⟨rfl,rfl⟩) hn hn' P N;generalize x.made A8 lo hi nd 8 1=q at a1 a2 a3 a4 c1 c2 ⊢;generalize x'.made lev' lo hi nd' 8 1=q' at b1 b2 b3 b4 c1 c2 ⊢;by_cases k8:k=8
    ·rw[A9 (.inr k8),A9 (.inr k8)];refine⟨λh=>?_,c2⟩;obtain⟨he,o1,OV,P1,n1,n2⟩:=c1 h;exact⟨he,o1,OV,P1⟩
    have k9:k=9:=by omega
    have ZM:∀{q:PS×List Nat×Nat×Nat},(∀y∈q.2.1,y<q.1.s.l.length)->q.2.2.1<q.1.s.l.length->∀y∈q.2.1++[q.2.2.1],y<q.1.s.l.length:=by
     intro q h1 h2 y hy;rcases zaq.1 hy with hy | hy
     ·exact h1 y hy
     ·rw[z6q.1 hy];exact h2
    have G':q'.2.2.2=0->Qo q'.1 (Dk lev' ks (q'.2.1++[q'.2.2.1]) q'.1).1:=λh=>La l2 ks _ q'.1 b1.ok (by rw[ziq,b4 h,KV (.inr k9)];exact z1q _) (ZM b2 b3) h2;by_cases e7:q.2.2.2=7
    ·rw[A9 (.inl (show q.2.2.2≠0 by omega))];refine⟨λh=>absurd e7 h,λ_=>?_⟩;by_cases h0:q'.2.2.2=0
     ·rw[A7 (by rintro(h | h);exact h h0;exact k8 h)];rcases c2 e7 with h | h
      ·exact absurd h0 h
      ·exact .inr (ilt h (G' h0).ext.cnt)
     ·rw[A9 (.inl h0)];exact .inl h0
    ·obtain⟨he,o1,OV,P1,n1,n2⟩:=c1 e7;by_cases e0:q.2.2.2=0
     ·have QF:=he.trans e0;rw[A7 (by rintro(h | h);exact h e0;exact k8 h),A7 (by rintro(h | h);exact h QF;exact k8 h)];obtain⟨y1,y2⟩:=A7m L l1 l2 ks a1.ok b1.ok (by rw[ziq,a4 e0,KV (.inr k9)];exact z1q _) (by rw[ziq,b4 QF,KV (.inr k9)];exact z1q _) (ZM a2 a3) (ZM b2 b3) h2 P1 (n1.app (.one n2));refine⟨λh=>?_,y2⟩;obtain⟨z1,o2,VX,P2⟩:=y1 h;exact⟨z1,o2,M.tr OV VX,P2⟩
     ·rw[A9 (.inl e0),A9 (.inl (by rw[he];exact e0))];exact⟨λ_=>⟨he,o1,OV,P1⟩,λh=>absurd h e7⟩
   rw[A7 k89,A7 k89];exact A7l ok ok' P N (M.leaf _ _ (by omega))
theorem A7m{A8 lev':Nat}(L:M.lv A8 lev')(l1:A8<2 ^ 31)(l2:lev'<2 ^ 31):∀(ps:List F5){o:M.Wd}{ns ns':List Nat}{x x':PS},x.s.Ok->x'.s.Ok->ps.length<=ns.length->ps.length<=ns'.length->(∀n∈ns,n<x.s.l.length)->(∀n∈ns',n<x'.s.l.length)->(∀p∈ps,p.pat=true)->PR M o x x'->L2 (M.N o) ns ns'->PO M o (Dk A8 ps ns x) (Dk lev' ps ns' x')
 |[],o,ns,ns',x,x',ok,ok',_,_,_,_,_,P,_=>by rw[Dk,Dk];exact⟨λ_=>⟨rfl,o,M.rf o,P⟩,λh=>by simp at h⟩
 |p::ps,o,[],_,x,x',ok,ok',h,_,_,_,_,P,_=>by simp at h
 |p::ps,o,_::_,[],x,x',ok,ok',_,h,_,_,_,P,_=>by simp at h
 |p::ps,o,n::ns,n'::ns',x,x',ok,ok',hl,ZI,hn,hn',hp,P,N=>by
   have N0:M.N o n n'/\L2 (M.N o) ns ns':=by cases N with | cons a b=>exact⟨a,b⟩
   have hn0:=hn n (z4q ..);have B8b:=hn' n' (z4q ..);have hp0:=hp p (z4q ..);have a:=NN l1 p n x ok hn0 hp0;have b:=NN l2 p n' x' ok' B8b hp0;obtain⟨c1,c2⟩:=B3c L l1 l2 p ok ok' hn0 B8b hp0 P N0.1;rw[lJ,lJ];generalize BA A8 p n x=q at a c1 c2 ⊢;generalize BA lev' p n' x'=q' at b c1 c2 ⊢;have lt1:∀m∈ns,m<q.1.s.l.length:=λm hm=>z0q (hn m (z2q _ hm)) a.ext.le;have B8r:∀m∈ns',m<q'.1.s.l.length:=λm hm=>z0q (hn' m (z2q _ hm)) b.ext.le;have ZK:∀r∈ps,r.pat=true:=λr hr=>hp r (z2q _ hr);by_cases e7:q.2=7
   ·rw[A9 (show q.2≠0 by omega)];refine⟨λh=>absurd e7 h,λ_=>?_⟩;split
    ·exact c2 e7
    ·rename_i h0;rcases c2 e7 with h | h
     ·exact absurd h h0
     ·exact .inr (ilt h (La l2 ps ns' _ b.ok (by simpa using ZI) B8r ZK).ext.cnt)
   ·obtain⟨he,o1,OV,P1⟩:=c1 e7;by_cases e0:q.2=0
    ·rw[A7 (λg=>g e0),A7 (λg=>g (he.trans e0))];obtain⟨y1,y2⟩:=A7m L l1 l2 ps a.ok b.ok (by simpa using hl) (by simpa using ZI) lt1 B8r ZK P1 (N0.2.mono λ_ _=>M.nm OV);refine⟨λh=>?_,y2⟩;obtain⟨z1,o2,VX,P2⟩:=y1 h;exact⟨z1,o2,M.tr OV VX,P2⟩
    ·rw[A9 e0,A9 (by rw[he];exact e0)];exact⟨λ_=>⟨he,o1,OV,P1⟩,λh=>absurd h e7⟩
end
end
section
def RSi(M:TZ)(R:Rec)(e:Ex):Prop:=∀(A8 lev':Nat)(l l':List EN)(o:M.Wd)(w w':W),M.lv A8 lev'->A8+e.size<2 ^ 30->lev'+e.size<2 ^ 30->SR M o w w'->w.err=0->ER M o w w' l l'->
 ((R e A8 l w).1.err≠7->∃o1,M.le o o1/\M.T o1 (R e A8 l w).1.s (R e lev' l' w').1.s/\(R e lev' l' w').1.err=(R e A8 l w).1.err/\(R e lev' l' w').1.bad=(R e A8 l w).1.bad/\M.N o1 (R e A8 l w).2.1 (R e lev' l' w').2.1/\DR M o1 (R e A8 l w).2.2 (R e lev' l' w').2.2) /\
 ((R e A8 l w).1.err=7->(R e lev' l' w').1.err≠0\/M.R6<(R e lev' l' w').1.s.cnt)
structure KR(M:TZ)(R:Rec)(A8 lev':Nat)(k:Ex):Prop where
 good:Cw R k
 rel:RSi M R k
 lv:A8+1+k.size<2 ^ 30
 lv':lev'+1+k.size<2 ^ 30
variable {e:Ex}
theorem aA{R:Rec}{w:W}{A8:Nat}{l:List EN}(h:w.err≠0):J2 R w e A8 l=(w,0):=by unfold J2;rw[A9 h]
section
variable {M:TZ}{R:Rec}{o:M.Wd}{w w':W}{A8 lev':Nat}{l l':List EN}{k:Ex}
theorem B3a(good:Cw R k)(rel:RSi M R k)(L:M.lv A8 lev')(v:A8+k.size<2 ^ 30)(v':lev'+k.size<2 ^ 30)(H:SR M o w w')(hE:ER M o w w' l l'):Ic M o w w' (J2 R w k A8 l) (J2 R w' k lev' l'):=by
 have G:=U4 (A8:=A8) (l:=l) good v H.i hE.1;have G':=U4 (A8:=lev') (l:=l') good v' H.i' hE.2.1;by_cases h7:w.err=7
 ·exact ah H h7 G G' (by rw[aA (by omega)];exact h7) λh=>by rw[aA h];exact h
 ·have A:Al M o w w':=by
   rcases H.r with⟨-,A⟩ | ⟨h,-⟩
   ·exact A
   ·exact absurd h h7
  by_cases e0:w.err=0
  ·obtain⟨h1,h2⟩:=rel A8 lev' l l' o w w' L v v' H e0 hE;have QF:w'.err=0:=A.e.trans e0;unfold J2 at G G' ⊢;rw[A7 (show ¬w.err≠0 from λg=>g e0)]at G ⊢;rw[A7 (show ¬w'.err≠0 from λg=>g QF)]at G' ⊢;by_cases e7:(R k A8 l w).1.err=7
   ·exact⟨o,⟨M.rf o,G.1,G'.1,λh=>absurd h h7,⟨G.1.i,G'.1.i,.inr ⟨e7,h2 e7⟩⟩⟩,G.2,G'.2,λh=>absurd e7 h⟩
   ·obtain⟨o1,le,t,he,hb,n,d⟩:=h1 e7;exact⟨o1,⟨le,G.1,G'.1,λh=>absurd h h7,⟨G.1.i,G'.1.i,.inl ⟨e7,t,he,hb,A.ty.mono λ_ _=>M.nm le,A.vs.mono λ_ _=>M.nm le,KT.app (A.ks.mono le) (by rw[KT,KT];exact⟨d,trivial⟩)⟩⟩⟩,G.2,G'.2,λ_=>n⟩
  ·rw[aA e0,aA (by rw[A.e];exact e0)];exact⟨o,Stp.refl H,NR.leaf H (j:=0) (by omega)⟩
variable (L:M.lv A8 lev')(H:SR M o w w')(hE:ER M o w w' l l')
include L H hE
theorem KR.run(K:KR M R A8 lev' k):Ic M o w w' (J2 R w k A8 l) (J2 R w' k lev' l'):=B3a K.good K.rel L (by have:=K.lv;omega) (by have:=K.lv';omega) H hE
theorem KR.A7u(K:KR M R A8 lev' k):Ic M o w w' (J2 R w k (A8+1) l) (J2 R w' k (lev'+1) l'):=B3a K.good K.rel (M.lvs L) K.lv K.lv' H hE
theorem B8O(K0:KR M R A8 lev' (e.kd 0))(K1:KR M R A8 lev' (e.kd 1)):Ic M o w w' (MM R w e A8 l) (MM R w' e lev' l'):=by
 have lb:A8<2 ^ 31:=by have:=K0.lv;omega
 have lb':lev'<2 ^ 31:=by have:=K0.lv';omega
 obtain⟨o1,a1,a2⟩:=K0.run L H hE;unfold MM;simp only;generalize J2 R w (e.kd 0) A8 l=a at a1 a2 ⊢;generalize J2 R w' (e.kd 0) lev' l'=a' at a1 a2 ⊢;obtain⟨o2,b1,b2⟩:=K1.run L a1.s (hE.mono a1);generalize J2 R a.1 (e.kd 1) A8 l=b at b1 b2 ⊢;generalize J2 R a'.1 (e.kd 1) lev' l'=b' at b1 b2 ⊢;obtain⟨o3,v1,v2⟩:=RI b1.s L lb lb';generalize b.1.fresh A8=v at v1 v2 ⊢;generalize b'.1.fresh lev'=v' at v1 v2 ⊢;have t1:=v1.one v2;obtain⟨o4,g1⟩:=Gh t1.s (e.kd 0) ((a2.mono b1).mono t1) (a:=a.2) (a':=a'.2) (b:=v.2) (b':=v'.2) ⟨v2.1,v2.2.1,v2.2.2⟩;have v3:NR M o3 (v.1.Y1 [v.2]) (v'.1.Y1 [v'.2]) v.2 v'.2:=⟨v2.1,v2.2.1,v2.2.2⟩;have b3:=(b2.mono t1).mono g1;have v4:=v3.mono g1;generalize (v.1.Y1 [v.2]).agree a.2 v.2 (e.kd 0)=w1 at g1 b3 v4 ⊢;generalize (v'.1.Y1 [v'.2]).agree a'.2 v'.2 (e.kd 0)=w1' at g1 b3 v4 ⊢;obtain⟨o5,n1,n2⟩:=lQ g1.s (k:=8) (b:=0) (b':=0) (.inr (.inl rfl)) v4 (λh=>absurd rfl h);generalize w1.made 8 v.2 0=n at n1 n2 ⊢;generalize w1'.made 8 v'.2 0=n' at n1 n2 ⊢;obtain⟨o6,g2⟩:=Gh n1.s (e.kd 1) (b3.mono n1) n2;exact⟨o6,((((a1.trans b1).trans t1).trans g1).trans n1).trans g2,n2.mono g2⟩
omit hE in
theorem B8L{f a f' a':Nat}(lb:A8<2 ^ 31)(lb':lev'<2 ^ 31)(fn:NR M o w w' f f')(an:NR M o w w' a a'):Ic M o w w' (TI w f a e A8) (TI w' f' a' e lev'):=by
 have G:=eD (e:=e) lb H.i fn.1 an.1;have G':=eD (e:=e) lb' H.i' fn.2.1 an.2.1;have ee:∀(w:W)(f a A8:Nat),w.err≠0->TI w f a e A8=(w,0):=λw f a A8 h=>by unfold TI;rw[A9 h]
 by_cases h7:w.err=7
 ·exact ah H h7 G G' (by rw[ee _ _ _ _ (by omega)];exact h7) λh=>by rw[ee _ _ _ _ h];exact h
 ·have A:Al M o w w':=by
   rcases H.r with⟨-,A⟩ | ⟨h,-⟩
   ·exact A
   ·exact absurd h h7
  by_cases e0:w.err=0
  ·have nf:=fn.2.2 h7;have hk:=M.E8 H.i.ok H.i'.ok A.t nf;have EP:=M.D5 H.i.ok H.i'.ok A.t nf;have c0:¬w.err≠0:=λg=>g e0;have c0':¬w'.err≠0:=λg=>g (A.e.trans e0);unfold TI;rw[A7 c0,A7 c0',hk];by_cases c5:w.s.F9 (w.s.root f)=5
   ·rw[A9 c5,A9 c5];have n4:=NR.leaf H (j:=4) (by omega);obtain⟨o1,g⟩:=Gh H (e.kd 1) an n4;exact⟨o1,g,n4.mono g⟩
   rw[A7 c5,A7 c5];by_cases c6:w.s.F9 (w.s.root f)=6
   ·rw[A9 c6,A9 c6];simp only;obtain⟨o1,v1,v2⟩:=RI H L lb lb';generalize w.fresh A8=v at v1 v2 ⊢;generalize w'.fresh lev'=v' at v1 v2 ⊢;obtain⟨o2,u1,u2⟩:=RI v1.s L lb lb';generalize v.1.fresh A8=u at u1 u2 ⊢;generalize v'.1.fresh lev'=u' at u1 u2 ⊢;obtain⟨o3,m1,m2⟩:=lQ u1.s (k:=9) (.inr (.inr rfl)) (v2.mono u1) (λ_=>u2);generalize u.1.made 9 v.2 u.2=m at m1 m2 ⊢;generalize u'.1.made 9 v'.2 u'.2=m' at m1 m2 ⊢;obtain⟨o4,g1⟩:=Gh m1.s (e.kd 0) (((fn.mono v1).mono u1).mono m1) m2;obtain⟨o5,g2⟩:=Gh g1.s (e.kd 1) ((((an.mono v1).mono u1).mono m1).mono g1) (((v2.mono u1).mono m1).mono g1);exact⟨o5,(((v1.trans u1).trans m1).trans g1).trans g2,((u2.mono m1).mono g1).mono g2⟩
   rw[A7 c6,A7 c6];by_cases c9:w.s.F9 (w.s.root f)=9
   ·rw[A9 c9,A9 c9];have kk:∀i,NR M o w w' ((w.s.I1 (w.s.root f)).getD i 0) ((w'.s.I1 (w'.s.root f')).getD i 0):=λi=>by have n:=EP.getD (M.leaf o 0 (by omega)) i;have:=M.lt H.i.ok H.i'.ok A.t n;exact⟨this.1,this.2,λ_=>n⟩
    obtain⟨o1,g⟩:=Gh H (e.kd 1) an (kk 0);exact⟨o1,g,(kk 1).mono g⟩
   rw[A7 c9,A7 c9];have k:(w.fails 4 ⟨(e.kd 0).lo,(e.kd 0).hi,4,w.s.F9 (w.s.root f),9,Y4⟩).err≠7:=by rw[EB _ _ _ e0];omega
   have g:=(Good.refl H.i).fails 4 ⟨(e.kd 0).lo,(e.kd 0).hi,4,w.s.F9 (w.s.root f),9,Y4⟩;have g':=(Good.refl H.i').fails 4 ⟨(e.kd 0).lo,(e.kd 0).hi,4,w.s.F9 (w.s.root f),9,Y4⟩;have s:SR M o (w.fails 4 ⟨(e.kd 0).lo,(e.kd 0).hi,4,w.s.F9 (w.s.root f),9,Y4⟩) (w'.fails 4 ⟨(e.kd 0).lo,(e.kd 0).hi,4,w.s.F9 (w.s.root f),9,Y4⟩):=⟨g.i,g'.i,.inl ⟨k,A.fails _ _⟩⟩;exact⟨o,⟨M.rf o,g,g',λh=>absurd h h7,s⟩,NR.leaf s (j:=0) (by omega)⟩
  ·rw[ee _ _ _ _ e0,ee _ _ _ _ (by rw[A.e];exact e0)];exact⟨o,Stp.refl H,NR.leaf H (j:=0) (by omega)⟩
theorem B9L(K0:KR M R A8 lev' (e.kd 0))(K1:KR M R A8 lev' (e.kd 1)):Ic M o w w' (Ru R w e A8 l) (Ru R w' e lev' l'):=by
 have lb:A8<2 ^ 31:=by have:=K0.lv;omega
 have lb':lev'<2 ^ 31:=by have:=K0.lv';omega
 obtain⟨o1,a1,a2⟩:=K0.run L H hE;unfold Ru;simp only;generalize J2 R w (e.kd 0) A8 l=a at a1 a2 ⊢;generalize J2 R w' (e.kd 0) lev' l'=a' at a1 a2 ⊢;obtain⟨o2,b1,b2⟩:=K1.run L a1.s (hE.mono a1);generalize J2 R a.1 (e.kd 1) A8 l=b at b1 b2 ⊢;generalize J2 R a'.1 (e.kd 1) lev' l'=b' at b1 b2 ⊢;exact(a1.trans b1).out (B8L L b1.s lb lb' (a2.mono b1) b2)
noncomputable def gH(R:Rec)(w:W)(n:Nat)(k:Ex)(A8:Nat)(l:List EN)(s:ByteArray):W×Nat :=if w.err≠0 then J2 R w k A8 (l++[⟨s,n,[]⟩])else J2 R ((w.above n A8).1.RU (w.above n A8).2) k A8 (l++[⟨s,n,(w.above n A8).2⟩])
variable {s:ByteArray}
omit L H hE in
theorem A4f{n:Nat}(good:Cw R k)(v:A8+k.size<2 ^ 30)(h:j5 w)(hE:Z5 w.s.l.length l)(hn:n<w.s.l.length):NU w (gH R w n k A8 l s):=by
 unfold gH;split
 ·exact U4 good v h (hE.app (Z5.one hn))
 ·obtain⟨c1,c2⟩:=BS h (n:=n) (A8:=A8) hn;generalize w.above n A8=c at c1 c2 ⊢;have g:=Hz c1 c2;exact g.n (U4 good v g.i ((hE.mono g.ext.le).app λx hx=>by rw[z6q.1 hx];exact⟨g.lt hn,c2.1⟩))
theorem B3d{n n':Nat}(K:KR M R A8 lev' k)(N:NR M o w w' n n'):Ic M o w w' (gH R w n k A8 l s) (gH R w' n' k lev' l' s):=by
 have v:=K.lv;have v':=K.lv';have G:=A4f (s:=s) K.good (show A8+k.size<2 ^ 30 by omega) H.i hE.1 N.1;have G':=A4f (s:=s) K.good (show lev'+k.size<2 ^ 30 by omega) H.i' hE.2.1 N.2.1;have ee:∀(w:W)(n A8:Nat)(l:List EN),w.err≠0->gH R w n k A8 l s=(w,0):=λw n A8 l h=>by unfold gH;rw[A9 h,aA h]
 by_cases h7:w.err=7
 ·exact ah H h7 G G' (by rw[ee _ _ _ _ (by omega)];exact h7) λh=>by rw[ee _ _ _ _ h];exact h
 ·have A:Al M o w w':=by
   rcases H.r with⟨-,A⟩ | ⟨h,-⟩
   ·exact A
   ·exact absurd h h7
  by_cases e0:w.err=0
  ·unfold gH;rw[A7 (show ¬w.err≠0 from λg=>g e0),A7 (show ¬w'.err≠0 from λg=>g (A.e.trans e0))];obtain⟨s1,hv⟩:=B6U H N L;obtain⟨-,c2⟩:=BS H.i (n:=n) (A8:=A8) N.1;obtain⟨-,c2'⟩:=BS H.i' (n:=n') (A8:=lev') N.2.1;have hv:=hv h7;generalize w.above n A8=c at s1 hv c2 ⊢;generalize w'.above n' lev'=c' at s1 hv c2' ⊢;have s2:=s1.vars c2 c2' λ_=>hv;exact s2.out (K.run L s2.s ((hE.mono s2).app (ER.vs (N.mono s2) c2.1 c2'.1 λ_=>hv)))
  ·rw[ee _ _ _ _ e0,ee _ _ _ _ (by rw[A.e];exact e0)];exact⟨o,Stp.refl H,NR.leaf H (j:=0) (by omega)⟩
theorem B9M(K0:KR M R A8 lev' (e.kd 0))(K1:KR M R A8 lev' (e.kd 1))(ha:e.a.E8≠0->e.a.rc):Ic M o w w' (Ry R w e A8 l) (Ry R w' e lev' l'):=by
 unfold Ry;split
 ·rename_i k;obtain⟨o1,a1,a2⟩:=K0.run L H hE;simp only;generalize J2 R w (e.kd 0) A8 l=a at a1 a2 ⊢;generalize J2 R w' (e.kd 0) lev' l'=a' at a1 a2 ⊢;obtain⟨o2,n1,n2⟩:=B1o a1.s (ha k);generalize a.1.put e.a=n at n1 n2 ⊢;generalize a'.1.put e.a=n' at n1 n2 ⊢;obtain⟨o3,g⟩:=Gh n1.s (e.kd 0) (a2.mono n1) n2;have ag:=(a1.trans n1).trans g;exact ag.out (K1.run L g.s ((hE.mono ag).app (ER.one (n2.mono g))))
 split
 ·obtain⟨o1,a1,a2⟩:=K0.A7u L H hE;have e1:∀(w:W)(A8:Nat)(l:List EN),(let a:=J2 R w (e.kd 0) (A8+1) l
   if a.1.err≠0 then J2 R a.1 (e.kd 1) A8 (l++[⟨e.name,a.2,[]⟩])
   else J2 R ((a.1.above a.2 A8).1.RU (a.1.above a.2 A8).2) (e.kd 1) A8 (l++[⟨e.name,a.2,(a.1.above a.2 A8).2⟩]))=gH R (J2 R w (e.kd 0) (A8+1) l).1 (J2 R w (e.kd 0) (A8+1) l).2 (e.kd 1) A8 l e.name:=λ_ _ _=>rfl
  rw[e1,e1];exact a1.out (B3d L a1.s (hE.mono a1) K1 a2)
 ·obtain⟨o1,a1,a2⟩:=K0.run L H hE;simp only;exact a1.out (K1.run L a1.s ((hE.mono a1).app (ER.one a2)))
theorem B9N(K0:KR M R A8 lev' (e.kd 0))(K1:KR M R A8 lev' (e.kd 1))(ha:e.a.E8≠0->e.a.rc)(hb:e.b.E8≠0->e.b.rc):Ic M o w w' (SA R w e A8 l) (SA R w' e lev' l'):=by
 have lb:A8+1<2 ^ 31:=by have:=K0.lv;omega
 have lb':lev'+1<2 ^ 31:=by have:=K0.lv';omega
 unfold SA;simp only;obtain⟨o1,p1,p2⟩:=A2X H ha (M.lvs L) lb lb';generalize w.Y0 e.a (A8+1)=p at p1 p2 ⊢;generalize w'.Y0 e.a (lev'+1)=p' at p1 p2 ⊢;obtain⟨o2,r1,r2⟩:=A2X p1.s hb (M.lvs L) lb lb';generalize p.1.Y0 e.b (A8+1)=r at r1 r2 ⊢;generalize p'.1.Y0 e.b (lev'+1)=r' at r1 r2 ⊢;obtain⟨o3,f1,f2⟩:=lQ r1.s (k:=9) (.inr (.inr rfl)) (p2.mono r1) (λ_=>r2);generalize r.1.made 9 p.2 r.2=f at f1 f2 ⊢;generalize r'.1.made 9 p'.2 r'.2=f' at f1 f2 ⊢;have pf:=(p1.trans r1).trans f1;have E2:ER M o3 f.1 f'.1 [⟨e.name,f.2,[]⟩,⟨e.arg,p.2,[]⟩] [⟨e.name,f'.2,[]⟩,⟨e.arg,p'.2,[]⟩]:=(ER.one (s:=e.name) f2).app (ER.one (s:=e.arg) ((p2.mono r1).mono f1));obtain⟨o4,b1,b2⟩:=K0.A7u (l:=l++[⟨e.name,f.2,[]⟩,⟨e.arg,p.2,[]⟩]) (l':=l'++[⟨e.name,f'.2,[]⟩,⟨e.arg,p'.2,[]⟩]) L f1.s ((hE.mono pf).app E2);generalize J2 R f.1 (e.kd 0) (A8+1) (l++[⟨e.name,f.2,[]⟩,⟨e.arg,p.2,[]⟩])=b at b1 b2 ⊢;generalize J2 R f'.1 (e.kd 0) (lev'+1) (l'++[⟨e.name,f'.2,[]⟩,⟨e.arg,p'.2,[]⟩])=b' at b1 b2 ⊢;obtain⟨o5,g⟩:=Gh b1.s (e.kd 0) b2 ((r2.mono f1).mono b1);have pg:=(pf.trans b1).trans g;have T:=B3d (s:=e.name) L g.s (hE.mono pg) K1 ((f2.mono b1).mono g);exact pg.out T
theorem B8N(K0:KR M R A8 lev' (e.kd 0))(K1:KR M R A8 lev' (e.kd 1))(K2:KR M R A8 lev' (e.kd 2)):Ic M o w w' (ML R w e A8 l) (ML R w' e lev' l'):=by
 have lb:A8<2 ^ 31:=by have:=K0.lv;omega
 have lb':lev'<2 ^ 31:=by have:=K0.lv';omega
 unfold ML;simp only;obtain⟨o1,c1,c2⟩:=K0.run L H hE;generalize J2 R w (e.kd 0) A8 l=c at c1 c2 ⊢;generalize J2 R w' (e.kd 0) lev' l'=c' at c1 c2 ⊢;obtain⟨o2,g0⟩:=Gh c1.s (e.kd 0) c2 (NR.leaf c1.s (j:=1) (by omega));have cg:=c1.trans g0;generalize c.1.agree c.2 1 (e.kd 0)=w0 at g0 cg ⊢;generalize c'.1.agree c'.2 1 (e.kd 0)=w0' at g0 cg ⊢;obtain⟨o3,a1,a2⟩:=K1.run L g0.s (hE.mono cg);generalize J2 R w0 (e.kd 1) A8 l=a at a1 a2 ⊢;generalize J2 R w0' (e.kd 1) lev' l'=a' at a1 a2 ⊢;have ca:=cg.trans a1;obtain⟨o4,b1,b2⟩:=K2.run L a1.s (hE.mono ca);generalize J2 R a.1 (e.kd 2) A8 l=b at b1 b2 ⊢;generalize J2 R a'.1 (e.kd 2) lev' l'=b' at b1 b2 ⊢;obtain⟨o5,v1,v2⟩:=RI b1.s L lb lb';generalize b.1.fresh A8=v at v1 v2 ⊢;generalize b'.1.fresh lev'=v' at v1 v2 ⊢;have t1:=v1.one v2;have v3:NR M o5 (v.1.Y1 [v.2]) (v'.1.Y1 [v'.2]) v.2 v'.2:=⟨v2.1,v2.2.1,v2.2.2⟩;obtain⟨o6,g1⟩:=Gh t1.s (e.kd 1) ((a2.mono b1).mono t1) v3;obtain⟨o7,g2⟩:=Gh g1.s (e.kd 2) ((b2.mono t1).mono g1) (v3.mono g1);exact⟨o7,(((ca.trans b1).trans t1).trans g1).trans g2,(v3.mono g1).mono g2⟩
end
end
def A5u{R:Rec}{A8:Nat}{l:List EN}{v r:Nat}{w:W}(h:w.err≠0):∀rs:List (F5×Ex),(Ci R A8 l v r rs w).1=w
 |[]=>rfl
 | (p,k)::rs=>by rw[Ci,A9 h]
def B9c{M:TZ}{o:M.Wd}:∀(ss:List ByteArray){ns ns':List Nat},L2 (M.N o) ns ns'->L2 (λa b:EN=>a.name=b.name/\M.N o a.node b.node/\L2 (M.N o) a.vars b.vars) (List.zipWith (λs n=>(⟨s,n,[]⟩:EN)) ss ns) (List.zipWith (λs n=>(⟨s,n,[]⟩:EN)) ss ns')
 |[],_,_,_=>by simp only[List.zipWith_nil_left];exact .nil
 |s::ss,_,_,.nil=>by simp only[List.zipWith_nil_right];exact .nil
 |s::ss,_,_,.cons a h=>by simp only[List.zipWith_cons_cons];exact .cons ⟨rfl,a,.nil⟩ (B9c ss h)
section
variable {M:TZ}{R:Rec}
def A97{q:PS×Nat}{n:Nat}(h:∀m∈q.1.nodes,m<n):Z5 n (if q.2≠0 then[]else List.zipWith (λs n=>(⟨s,n,[]⟩:EN)) q.1.names q.1.nodes):=by
 split
 ·intro x hx;cases hx
 ·intro x hx;obtain⟨j,hj,rfl⟩:=zlq.1 hx;simp only[zAq]at hj;rw[zyq];exact⟨h _ (z8q (by omega)),by simp⟩
def B29{A8 lev':Nat}(L:M.lv A8 lev')(lb:A8<2 ^ 31)(lb':lev'<2 ^ 31):∀(rs:List (F5×Ex)){l l':List EN}{v v' r r':Nat}{o:M.Wd}{w w':W},(∀a∈rs,KR M R A8 lev' a.2/\a.1.pat=true)->SR M o w w'->ER M o w w' l l'->NR M o w w' v v'->NR M o w w' r r'->Ic M o w w' (Ci R A8 l v r rs w) (Ci R lev' l' v' r' rs w')
 |[],l,l',v,v',r,r',o,w,w',_,H,_,_,hr=>⟨o,Stp.refl H,hr⟩
 | (p,k)::rs,l,l',v,v',r,r',o,w,w',ha,H,hE,hv,hr=>by
   obtain⟨K,hp⟩:=ha _ (z4q ..);have G:=Tc (R:=R) (l:=l) (r:=r) (v:=v) lb ((p,k)::rs) w (λa h=>⟨(ha a h).1.good,by have:=(ha a h).1.lv;omega,(ha a h).2⟩) H.i hE.1 hv.1 hr.1;have G':=Tc (R:=R) (l:=l') (r:=r') (v:=v') lb' ((p,k)::rs) w' (λa h=>⟨(ha a h).1.good,by have:=(ha a h).1.lv';omega,(ha a h).2⟩) H.i' hE.2.1 hv.2.1 hr.2.1;by_cases h7:w.err=7
   ·exact ah H h7 G G' (by rw[A5u (by omega)];exact h7) λh=>by rw[A5u h];exact h
   ·have A:Al M o w w':=by
     rcases H.r with⟨-,A⟩ | ⟨h,-⟩
     ·exact A
     ·exact absurd h h7
    clear G G';rw[Ci,Ci];by_cases e0:w.err=0
    ·have QF:w'.err=0:=A.e.trans e0;rw[A7 (show ¬w.err≠0 from λg=>g e0),A7 (show ¬w'.err≠0 from λg=>g QF)];simp only;have P:=NN lb p v ⟨w.s,[],[],P7⟩ H.i.ok hv.1 hp;have P':=NN lb' p v' ⟨w'.s,[],[],P7⟩ H.i'.ok hv.2.1 hp;obtain⟨p1,p2⟩:=B3c L lb lb' p (o:=o) (x:=⟨w.s,[],[],P7⟩) (x':=⟨w'.s,[],[],P7⟩) H.i.ok H.i'.ok hv.1 hv.2.1 hp ⟨A.t,rfl,.nil,rfl⟩ (hv.2.2 h7);generalize BA A8 p v ⟨w.s,[],[],P7⟩=q at P p1 p2 ⊢;generalize BA lev' p v' ⟨w'.s,[],[],P7⟩=q' at P' p1 p2 ⊢;have g1:Good w (({ w with s:=q.1.s }:W).fails q.2 q.1.bad):=(H.i.s (w':={ w with s:=q.1.s }) P.ok P.ext rfl rfl rfl).fails q.2 q.1.bad;have g1':Good w' (({ w' with s:=q'.1.s }:W).fails q'.2 q'.1.bad):=(H.i'.s (w':={ w' with s:=q'.1.s }) P'.ok P'.ext rfl rfl rfl).fails q'.2 q'.1.bad;have hs:(({ w with s:=q.1.s }:W).fails q.2 q.1.bad).s=q.1.s:=X9 ..;have Db:(({ w' with s:=q'.1.s }:W).fails q'.2 q'.1.bad).s=q'.1.s:=X9 ..;have he:(({ w with s:=q.1.s }:W).fails q.2 q.1.bad).err=q.2:=EB _ _ _ e0;have he':(({ w' with s:=q'.1.s }:W).fails q'.2 q'.1.bad).err=q'.2:=EB _ _ _ QF;have step:∃o1,Stp M o w w' o1 (({ w with s:=q.1.s }:W).fails q.2 q.1.bad) (({ w' with s:=q'.1.s }:W).fails q'.2 q'.1.bad)/\(q.2≠7->q'.2=q.2/\PR M o1 q.1 q'.1):=by
      by_cases q7:q.2=7
      ·exact⟨o,⟨M.rf o,g1,g1',λh=>absurd h h7,⟨g1.i,g1'.i,.inr ⟨by rw[he];exact q7,by rw[he',Db];exact p2 q7⟩⟩⟩,λh=>absurd q7 h⟩
      ·obtain⟨eq,o1,le,PP⟩:=p1 q7;exact⟨o1,⟨le,g1,g1',λh=>absurd h h7,⟨g1.i,g1'.i,.inl ⟨by rw[he];exact q7,by rw[eq,PP.bad];exact(A.mono le PP.t).fails _ _⟩⟩⟩,λ_=>⟨eq,PP⟩⟩
     obtain⟨o1,s1,hq⟩:=step;have hE1:ER M o1 (({ w with s:=q.1.s }:W).fails q.2 q.1.bad) (({ w' with s:=q'.1.s }:W).fails q'.2 q'.1.bad) (l++if q.2≠0 then[]else List.zipWith (λs n=>(⟨s,n,[]⟩:EN)) q.1.names q.1.nodes) (l'++if q'.2≠0 then[]else List.zipWith (λs n=>(⟨s,n,[]⟩:EN)) q'.1.names q'.1.nodes):=by
      refine(hE.mono s1).app ⟨A97 λm hm=>by rw[hs];exact P.nd (by simp) m hm,A97 λm hm=>by rw[Db];exact P'.nd (by simp) m hm,λh=>?_⟩;rw[he]at h;obtain⟨eq,PP⟩:=hq h;rw[eq,PP.names];split
      ·exact .nil
      ·exact B9c _ PP.nodes
     generalize ({ w with s:=q.1.s }:W).fails q.2 q.1.bad=w1 at s1 hE1 ⊢;generalize ({ w' with s:=q'.1.s }:W).fails q'.2 q'.1.bad=w1' at s1 hE1 ⊢;obtain⟨o2,b1,b2⟩:=K.run L s1.s hE1;generalize J2 R w1 k A8 (l++if q.2≠0 then[]else List.zipWith (λs n=>(⟨s,n,[]⟩:EN)) q.1.names q.1.nodes)=b at b1 b2 ⊢;generalize J2 R w1' k lev' (l'++if q'.2≠0 then[]else List.zipWith (λs n=>(⟨s,n,[]⟩:EN)) q'.1.names q'.1.nodes)=b' at b1 b2 ⊢;have sb:=s1.trans b1;obtain⟨o3,g2⟩:=Gh b1.s k b2 (hr.mono sb);have sg:=sb.trans g2;exact sg.out (B29 L lb lb' rs (λa h=>ha a (z2q _ h)) g2.s (hE.mono sg) (hv.mono sg) (hr.mono sg))
    ·rw[A9 (show w.err≠0 from e0),A9 (show w'.err≠0 by rw[A.e];exact e0)];exact⟨o,Stp.refl H,NR.leaf H (j:=0) (by omega)⟩
def B6V{o:M.Wd}{w w':W}{A8 lev':Nat}{l l':List EN}{e:Ex}(L:M.lv A8 lev')(lb:A8<2 ^ 31)(lb':lev'<2 ^ 31)(H:SR M o w w')(hE:ER M o w w' l l')(K0:KR M R A8 lev' (e.kd 0))(hk:∀k∈e.D5,KR M R A8 lev' k)(hp:∀p∈e.J7,p.pat=true):Ic M o w w' (Ip R w e A8 l) (Ip R w' e lev' l'):=by unfold Ip;simp only;obtain⟨o1,a1,a2⟩:=K0.run L H hE;generalize J2 R w (e.kd 0) A8 l=a at a1 a2 ⊢;generalize J2 R w' (e.kd 0) lev' l'=a' at a1 a2 ⊢;obtain⟨o2,v1,v2⟩:=RI a1.s L lb lb';generalize a.1.fresh A8=v at v1 v2 ⊢;generalize a'.1.fresh lev'=v' at v1 v2 ⊢;obtain⟨o3,g⟩:=Gh v1.s (e.kd 0) (a2.mono v1) v2;have v3:=v2.mono g;generalize v.1.agree a.2 v.2 (e.kd 0)=w0 at g v3 ⊢;generalize v'.1.agree a'.2 v'.2 (e.kd 0)=w0' at g v3 ⊢;obtain⟨o4,r1,r2⟩:=RI g.s L lb lb';generalize w0.fresh A8=r at r1 r2 ⊢;generalize w0'.fresh lev'=r' at r1 r2 ⊢;have v4:=v3.mono r1;have t:=r1.types (l:=[v.2,r.2]) (l':=[v'.2,r'.2]) (by intro x hx;simp only[zeq,znq,or_false]at hx;rcases hx with rfl | rfl;exact v4.1;exact r2.1) (by intro x hx;simp only[zeq,znq,or_false]at hx;rcases hx with rfl | rfl;exact v4.2.1;exact r2.2.1) λh=>.cons (v4.2.2 h) (.one (r2.2.2 h));have gg:=((a1.trans v1).trans g).trans t;refine gg.out (B29 L lb lb' _ (λx hx=>?_) t.s (hE.mono gg) ⟨v4.1,v4.2.1,v4.2.2⟩ ⟨r2.1,r2.2.1,r2.2.2⟩);have:=zmq hx;exact⟨hk x.2 (zGq this.2),hp x.1 this.1⟩
def B5V{A8 lev':Nat}(L:M.lv A8 lev'){want:Nat}(hw:want<5):∀(ks:List Ex){l l':List EN}{o:M.Wd}{w w':W},(∀k∈ks,KR M R A8 lev' k)->SR M o w w'->ER M o w w' l l'->∃o1,Stp M o w w' o1 (FE R A8 l want ks w) (FE R lev' l' want ks w')
 |[],l,l',o,w,w',_,H,_=>⟨o,Stp.refl H⟩
 |k::ks,l,l',o,w,w',hk,H,hE=>by obtain⟨o1,a1,a2⟩:=(hk k (z4q ..)).run L H hE;rw[FE,FE];obtain⟨o2,g⟩:=Gh a1.s k a2 (NR.leaf a1.s hw);have ag:=a1.trans g;obtain⟨o3,s⟩:=B5V L hw ks (λx hx=>hk x (z2q _ hx)) g.s (hE.mono ag);exact⟨o3,ag.trans s⟩
def B8M{o:M.Wd}{w w':W}{A8 lev':Nat}{l l':List EN}{e:Ex}(hr:e.right=true)(hk:∀k∈e.D5,Cw R k/\RSi M R k)(L:M.lv A8 lev')(hl:A8+e.size<2 ^ 30)(ZI:lev'+e.size<2 ^ 30)(H:SR M o w w')(hE:ER M o w w' l l'):Ic M o w w' (R7 R w e A8 l) (R7 R w' e lev' l'):=by
 obtain⟨k1,k2,k3⟩:=Ex.bY hr;have kk:∀k∈e.D5,KR M R A8 lev' k:=λk hm=>⟨(hk k hm).1,(hk k hm).2,by have:=Ex.CG hm;omega,by have:=Ex.CG hm;omega⟩;have kd:∀i,i<e.D5.length->KR M R A8 lev' (e.kd i):=λi hi=>kk _ (Ex.CR hi);have na:=Ex.lG hr;have nb:=Ex.A1H hr;have lb:A8<2 ^ 31:=by omega
 have lb':lev'<2 ^ 31:=by omega
 unfold R7;by_cases g:e.E8=1
 ·rw[A9 g,A9 g];exact B8P H L lb lb' hE
 rw[A7 g,A7 g];by_cases g:e.E8=2\/e.E8=3\/e.E8=4\/e.E8=5
 ·rw[A9 g,A9 g];exact⟨o,Stp.refl H,NR.leaf H (j:=(e.E8-2).toNat) (by omega)⟩
 rw[A7 g,A7 g];by_cases g:e.E8=6
 ·rw[A9 g,A9 g];have n2:e.D5.length=2:=by simp[g,L9]at k3;omega
  obtain⟨o1,a1,a2⟩:=(kd 0 (by omega)).run L H hE;simp only;generalize J2 R w (e.kd 0) A8 l=a at a1 a2 ⊢;generalize J2 R w' (e.kd 0) lev' l'=a' at a1 a2 ⊢;obtain⟨o2,b1,b2⟩:=(kd 1 (by omega)).run L a1.s (hE.mono a1);generalize J2 R a.1 (e.kd 1) A8 l=b at b1 b2 ⊢;generalize J2 R a'.1 (e.kd 1) lev' l'=b' at b1 b2 ⊢;exact(a1.trans b1).out (lQ b1.s (k:=7) (.inl rfl) (a2.mono b1) (λ_=>b2))
 rw[A7 g,A7 g];by_cases g:e.E8=7
 ·rw[A9 g,A9 g];obtain⟨o1,v1,v2⟩:=RI H L lb lb';generalize w.fresh A8=v at v1 v2 ⊢;generalize w'.fresh lev'=v' at v1 v2 ⊢;have t1:=v1.one v2;exact t1.out (lQ t1.s (k:=8) (.inr (.inl rfl)) ⟨v2.1,v2.2.1,v2.2.2⟩ (λh=>absurd rfl h))
 rw[A7 g,A7 g];by_cases g:e.E8=8
 ·rw[A9 g,A9 g];have n2:e.D5.length=2:=by simp[g,L9]at k3;omega
  exact B8O L H hE (kd 0 (by omega)) (kd 1 (by omega))
 rw[A7 g,A7 g];by_cases g:e.E8=9
 ·rw[A9 g,A9 g];have n1:e.D5.length=1:=by simp[g,L9]at k3;omega
  obtain⟨o1,p1,p2⟩:=A2X H na.1 L lb lb';simp only;generalize w.Y0 e.a A8=p at p1 p2 ⊢;generalize w'.Y0 e.a lev'=p' at p1 p2 ⊢;obtain⟨o2,b1,b2⟩:=(kd 0 (by omega)).run (l:=l++[⟨e.name,p.2,[]⟩]) (l':=l'++[⟨e.name,p'.2,[]⟩]) L p1.s ((hE.mono p1).app (ER.one p2));exact(p1.trans b1).out (lQ b1.s (k:=9) (.inr (.inr rfl)) (p2.mono b1) (λ_=>b2))
 rw[A7 g,A7 g];by_cases g:e.E8=10
 ·rw[A9 g,A9 g];have n2:e.D5.length=2:=by simp[g,L9]at k3;omega
  exact B9L L H hE (kd 0 (by omega)) (kd 1 (by omega))
 rw[A7 g,A7 g];by_cases g:e.E8=11
 ·rw[A9 g,A9 g];have n2:e.D5.length=2:=by simp[g,L9]at k3;omega
  exact B9M L H hE (kd 0 (by omega)) (kd 1 (by omega)) na.1
 rw[A7 g,A7 g];by_cases g:e.E8=12
 ·rw[A9 g,A9 g];have n2:e.D5.length=2:=by simp[g,L9]at k3;omega
  exact B9N L H hE (kd 0 (by omega)) (kd 1 (by omega)) na.1 nb
 rw[A7 g,A7 g];by_cases g:e.E8=13
 ·rw[A9 g,A9 g];have n3:e.D5.length=3:=by simp[g,L9]at k3;omega
  exact B8N L H hE (kd 0 (by omega)) (kd 1 (by omega)) (kd 2 (by omega))
 rw[A7 g,A7 g];by_cases g:e.E8=14
 ·rw[A9 g,A9 g];have n1:0<e.D5.length:=by simp[g,L9]at k3;omega
  refine B6V L lb lb' H hE (kd 0 n1) kk (λp hp=>?_);have:=Ex.A5i hr hp;unfold F5.right at this;rw[zbq]at this;exact this.1
 rw[A7 g,A7 g];by_cases g:e.E8=15
 ·rw[A9 g,A9 g];have n1:e.D5.length=1:=by simp[g,L9]at k3;omega
  obtain⟨o1,a1,a2⟩:=(kd 0 (by omega)).run L H hE;simp only;generalize J2 R w (e.kd 0) A8 l=a at a1 a2 ⊢;generalize J2 R w' (e.kd 0) lev' l'=a' at a1 a2 ⊢;obtain⟨o2,n1,n2⟩:=B1o a1.s (na.2 g);generalize a.1.put e.a=n at n1 n2 ⊢;generalize a'.1.put e.a=n' at n1 n2 ⊢;obtain⟨o3,g⟩:=Gh n1.s (e.kd 0) (a2.mono n1) n2;exact⟨o3,(a1.trans n1).trans g,n2.mono g⟩
 ·rw[A7 g,A7 g];obtain⟨o1,s⟩:=B5V (R:=R) L (want:=if e.op=7 then 2 else 0) (by split<;>omega) e.D5 kk H hE;exact⟨o1,s,NR.leaf s.s (j:=if e.op=5\/e.op=6\/e.op=7 then 1 else 0) (by split<;>omega)⟩
end
def A3w(M:TZ):∀(f:Nat)(e:Ex),e.right=true->RSi M (K9 f) e
 |0,e,hr=>λA8 lev' l l' o w w' L hl ZI H e0 hE=>by
   have A:Al M o w w':=by
    rcases H.r with⟨-,A⟩ | ⟨h,-⟩
    ·exact A
    ·omega
   refine⟨λh=>⟨o,M.rf o,A.t,A.e,A.b,M.leaf o 0 (by omega),?_⟩,λh=>?_⟩
   ·simp only[K9]
    rw[DR];exact⟨M.leaf o 0 (by omega),.nil,.nil,by rw[KT];trivial⟩
   ·simp only[K9]at h;omega
 |f+1,e,hr=>λA8 lev' l l' o w w' L hl ZI H e0 hE=>by
   have A:Al M o w w':=by
    rcases H.r with⟨-,A⟩ | ⟨h,-⟩
    ·exact A
    ·omega
   have w0:∀{w:W},j5 w->j5 { w with types:=[],vars:=[],D5:=[] }:=λh=>⟨h.ok,by simp,⟨by simp,by simp⟩,trivial⟩;have H0:SR M o { w with types:=[],vars:=[],D5:=[] } { w' with types:=[],vars:=[],D5:=[] }:=⟨w0 H.i,w0 H.i',.inl ⟨by simp only;omega,A.t,A.e,A.b,.nil,.nil,by rw[KT];trivial⟩⟩;obtain⟨o1,s,n⟩:=B8M (R:=K9 f) hr (λk hk=>⟨LF f k (Ex.Bf hr hk),A3w M f k (Ex.Bf hr hk)⟩) L hl ZI H0 hE;rw[K9];simp only;generalize R7 (K9 f) { w with types:=[],vars:=[],D5:=[] } e A8 l=q at s n ⊢;generalize R7 (K9 f) { w' with types:=[],vars:=[],D5:=[] } e lev' l'=q' at s n ⊢;rcases s.s.r with⟨h7,B⟩ | ⟨h7,p⟩
   ·exact⟨λ_=>⟨o1,s.le,B.t,B.e,B.b,n.2.2 h7,by rw[DR];exact⟨n.2.2 h7,B.ty,B.vs,B.ks⟩⟩,λh=>absurd h h7⟩
   ·exact⟨λh=>absurd h7 h,λ_=>p⟩
section
variable (S:E9)(m:Nat)
end
section
variable {m1 m2:Nat}(hm:m1<=m2)
include hm
end
section
variable {m1 m2:Nat}(hm:m1<=m2)(uj:m2<=65536)
include hm uj
end
section
variable {m1 m2:Nat}(hm:m1<=m2)
include hm
end
section
variable {m1 m2:Nat}(hm:m1<=m2){w:W}
theorem A1G(h:w.err≠0):∀d:DD,AR d w=w
 |.mk n ts vs ks=>by rw[AR,A9 h]
theorem vT(h:w.err≠0):∀ts:List Nat,Ar ts w=(w,[])
 |[]=>by rw[Ar]
 |k::ks=>by rw[Ar,A9 h]
theorem vQ(h:w.err≠0):∀ts:List DD,C_ ts w=(w,[])
 |[]=>by rw[C_]
 |k::ks=>by rw[C_,A9 h]
include hm
end
theorem KT.nil{M:TZ}{o:M.Wd}:KT M o [] []:=by rw[KT];trivial
section
theorem vG(N:List Int):∀ts:List Ty,Zn N ts=ts.map (Ht N)
 |[]=>by rw[Zn];rfl
 |t::ts=>by rw[Zn,vG N ts];rfl
theorem A3S(N:List Int):∀ts:List K8,fU N ts=ts.map (Vf N)
 |[]=>by rw[fU];rfl
 |t::ts=>by rw[fU,A3S N ts];rfl
variable (N:List Int)
def A3U(t:Ty):(Ht N t).size=t.size:=by
 induction t using Ty.ind with
 |h t ih=>
   cases t with
   |mk k n ts=>
     rw[Ht];split
     ·rw[Ty.size_eq,Ty.size_eq];rfl
     ·split
      ·rfl
      ·rw[vG,Ty.size_eq,Ty.size_eq,Ty.U7,Ty.U7,zBq];congr 2;exact zzq λk hk=>ih k hk
def B6J(d:K8):WU d->WU (Vf N d):=by
 induction d using K8.ind with
 |h d ih=>
   intro h;obtain⟨a1,a2,a3,a4,a5⟩:(∀t∈d.types,t.size<=65536)/\d.types.length<=70000/\d.vars.length<2 ^ 29/\d.D5.length<=70000/\∀k∈d.D5,WU k:=by cases h with | mk _ a1 a2 a3 a4 a5=>exact⟨a1,a2,a3,a4,a5⟩
   cases d with
   |mk ts vs ks=>
     simp only[K8.A0v,K8.A94,K8.U7]at a1 a2 a3 a4 a5 ih;rw[Vf,A3S];refine .mk _ ?_ (by simpa using a2) (by simpa using a3) (by simpa using a4) ?_
     ·intro t ht;simp only[K8.A0v,zYq]at ht;obtain⟨u,hu,rfl⟩:=ht;rw[A3U];exact a1 u hu
     ·intro t ht;simp only[K8.U7,zYq]at ht;obtain⟨u,hu,rfl⟩:=ht;exact ih u hu (a5 u hu)
def yo:∀{d:DD}{w:W},(BM d (AR d w)).1.err=0->(AR d w).err=0
 |.mk n ts vs ks,w,g=>by
   by_cases n0:(AR (.mk n ts vs ks) w).err=0
   ·exact n0
   ·exfalso;rw[BM,vT n0]at g;simp only at g;rw[vQ n0]at g;exact n0 g
def A7v{e:Ex}(hr:e.right=true)(hs:e.size<2 ^ 29){m:Nat}(hm:m<=65536):(W9 e m).ty.size<=65536/\WU (W9 e m).dv:=by
 have I:j5 (⟨DX m,P7,0,[],[],[]⟩:W):=⟨RA hm,by simp,⟨by simp,by simp⟩,trivial⟩;obtain⟨k1,k2,k3,k4⟩:=LF e.size e hr 1 [] _ (by omega) I (λx hx=>by cases hx);have x1:K9 e.size e 1 [] ⟨DX m,P7,0,[],[],[]⟩=J5 e m:=rfl;rw[x1]at k1 k2 k3 k4;unfold W9;simp only
 split
 ·have z:WU zD:=.mk _ (by intro t ht;cases ht) (zfq _) (by show 0<2 ^ 29;omega) (zfq _) (by intro t ht;cases ht);exact⟨by show(Ty.mk 0 0 []).size<=_;rw[Ty.size_eq];simp,z⟩
 ·rename_i g;have g:(BM (J5 e m).2.2 (AR (J5 e m).2.2 (J5 e m).1)).1.err=0:=Classical.not_not.1 g;simp only;have n0:=yo g;obtain⟨n1,n2⟩:=fT (J5 e m).2.2 (J5 e m).1 k1;have cm:=n1.ok.cm;have mm:=n1.ok.mm;have c1:=(n2 n0).2;obtain⟨f1,-,f3⟩:=A0p (J5 e m).2.2 (AR (J5 e m).2.2 (J5 e m).1) (J5 e m).1.s.l.length n1.ok k4 (by omega);refine⟨?_,B6J _ _ (f3 g).2⟩;rw[A3U];have h0:=(n2 n0).1;have hn:=n0;obtain⟨a,ts,vs,ks,hd,qf⟩:∃a ts vs ks,(J5 e m).2.2=.mk a ts vs ks/\a=(J5 e m).2.1:=by
   unfold J5;have:e.size≠0:=by have:=e.size_eq;omega
   obtain⟨f,hf⟩:=Nat.exists_eq_succ_of_ne_zero this;rw[hf,K9];exact⟨_,_,_,_,rfl,rfl⟩
  rw[hd,AR,A7 (λh=>h h0)]at hn;have e':(({ (J5 e m).1 with s:=((J5 e m).1.s.read a).1 }:W).fails ((J5 e m).1.s.read a).2.2 P7)=(J5 e m).1.rd a:=rfl;rw[e']at hn;obtain⟨o1,-,-,o4⟩:=oo k1 a;have h1:=((YT ks _ o1).2 hn).1;rw[<- qf];exact((lS k1 a).2.2.2.2 (o4 h1).2.1).2.1
end
mutual
def NT.mp(f:Nat->Nat):NT->NT
 |.mk r k ts=>.mk (f r) k (NT.YR f ts)
def NT.YR(f:Nat->Nat):List NT->List NT
 |[]=>[]
 |t::ts=>t.mp f::NT.YR f ts
end
theorem B2O(f:Nat->Nat):∀ts:List NT,NT.YR f ts=ts.map (NT.mp f)
 |[]=>by rw[NT.YR];rfl
 |t::ts=>by rw[NT.YR,B2O f ts];rfl
section
variable {f:Nat->Nat}(hf:∀a b,f a=f b->a=b)
include hf
variable {l:List Nat}
theorem wm{x:Nat}:f x∈l.map f↔x∈l:=by rw[zYq];exact⟨λ⟨y,hy,e⟩=>hf _ _ e ▸ hy,λh=>⟨x,h,rfl⟩⟩
mutual
theorem A9x:∀(t:NT)(o:List Nat),(t.mp f).look (o.map f)=(t.look o).map f
 |.mk r k ts,o=>by
   rw[NT.mp,NT.look,NT.look];by_cases h:r∈o
   ·rw[A9 h,A9 ((wm hf).2 h)]
   ·rw[A7 h,A7 (λg=>h ((wm hf).1 g)),<- A6M ts (o++[r]),zpq];rfl
theorem A6M:∀(ts:List NT)(o:List Nat),NT.LW (NT.YR f ts) (o.map f)=(NT.LW ts o).map f
 |[],o=>by rw[NT.YR,NT.LW,NT.LW]
 |t::ts,o=>by rw[NT.YR,NT.LW,NT.LW,A9x t o,A6M ts _]
end
mutual
theorem A6y(K:List Nat):∀t:NT,(t.mp f).has (K.map f)=t.has K
 |.mk r k ts=>by rw[NT.mp,NT.has,NT.has,A9t K ts];congr 1;exact decide_eq_decide.2 (wm hf)
theorem A9t(K:List Nat):∀ts:List NT,NT.VL (K.map f) (NT.YR f ts)=NT.VL K ts
 |[]=>by rw[NT.YR,NT.VL,NT.VL]
 |t::ts=>by rw[NT.YR,NT.VL,NT.VL,A6y K t,A9t K ts]
end
theorem A56(r:Nat):∀K:List (Nat×Nat),E_ (K.map λe=>(f e.1,f e.2)) (f r)=(E_ K r).map f
 |[]=>rfl
 |e::K=>by
   unfold E_;rw[zdq,zLq,zLq];by_cases h:e.1=r
   ·have h1:(e.1==r)=true:=by simp[h]
    have h2:(f e.1==f r)=true:=by simp[h]
    simp only[h1,h2,zoq]
   ·have h1:(e.1==r)=false:=by simp[h]
    have h2:(f e.1==f r)=false:=by rw[beq_eq_false_iff_ne];exact λg=>h (hf _ _ g)
    simp only[h1,h2];exact A56 r K
end
structure Mb where
 bs:List Nd
 d:Nat
 dl:Nat
 mm:Nat
 dc:Nat
 dr:Nat
 ln:bs.length=5+d
 lf:∀j,j<5->bs[j]?=some ⟨j+1,0,none,[]⟩
namespace Mb
variable (E:Mb)
def rh(n:Nat):Nat:=if n<5 then n else n+E.d
def lv(a:Nat):Nat:=if a=0 then 0 else a+E.dl
def sh(x:Nd):Nd:=⟨x.E8,E.lv x.level,x.link.map E.rh,x.D5.map E.rh⟩
def R5(S:E9):E9:=⟨E.bs++(S.l.drop 5).map E.sh,E.mm,S.cnt+E.dc,S.J8+E.dr⟩
def Rm(S:E9):Prop:=E.mm<=S.mx+E.dc
theorem Vl(a b:Nat)(h:E.rh a=E.rh b):a=b:=by unfold rh at h;split at h<;>split at h<;>omega
variable {n:Nat}
theorem Vm(h:n<5):E.rh n=n:=by unfold rh;rw[A9 h]
theorem B3e:E.rh n=4↔n=4:=⟨λh=>E.Vl _ _ (h.trans (E.Vm (n:=4) (by omega)).symm),λh=>by rw[h];exact E.Vm (by omega)⟩
theorem B1s{a b:Nat}:E.rh a=E.rh b↔a=b:=⟨E.Vl a b,λh=>by rw[h]⟩
theorem pG(h:5<=n):E.rh n=n+E.d:=by unfold rh;rw[A7 (by omega)]
theorem lv0:E.lv 0=0:=rfl
theorem B8s(a b:Nat):min (E.lv a) (E.lv b)=E.lv (min a b):=by unfold lv;split<;>split<;>split<;>omega
theorem vD{x:Nat}{l:List Nat}:E.rh x∈l.map E.rh↔x∈l:=wm E.Vl
variable {E}
theorem lo(S:E9){k:Nat}(h:k<5+E.d):(E.R5 S).l[k]?=E.bs[k]?:=by simp only[R5];rw[List.getElem?_append_left (by rw[E.ln];exact h)]
theorem hi(S:E9)(n:Nat):(E.R5 S).l[5+E.d+n]?=(S.l[5+n]?).map E.sh:=by simp only[R5];rw[List.getElem?_append_right (by rw[E.ln];omega),E.ln,y2q,List.getElem?_drop];congr 2;omega
variable {S:E9}
theorem ext{T:E9}(h1:∀k,k<5+E.d->T.l[k]?=E.bs[k]?)(h2:∀n,T.l[5+E.d+n]?=(S.l[5+n]?).map E.sh)(h3:T.mx=E.mm)(h4:T.cnt=S.cnt+E.dc)(h5:T.J8=S.J8+E.dr):T=E.R5 S:=by
 have:T.l=(E.R5 S).l:=by
  refine List.ext_getElem? λk=>?_;rcases zxq k (5+E.d)with g | g
  ·rw[h1 k g,lo S g]
  ·obtain⟨n,rfl⟩:=zMq g;rw[h2,hi]
 cases T;simp only at this h3 h4 h5;subst h3;subst h4;subst h5;rw[this];rfl
theorem len(h:5<=S.l.length):(E.R5 S).l.length=S.l.length+E.d:=by simp only[R5,ziq,zuq,List.length_drop,E.ln];omega
theorem A1P(h:5<=S.l.length):(E.R5 S).l.length=E.rh S.l.length:=by rw[len h,pG E h]
theorem xD(h:5<=S.l.length)(hn:n<S.l.length):E.rh n<(E.R5 S).l.length:=by rw[len h];unfold rh;split<;>omega
def B5(S:E9):Prop:=∀j,j<5->S.l[j]?=some ⟨j+1,0,none,[]⟩
theorem get(b:B5 S)(n:Nat):(E.R5 S).l[E.rh n]?=(S.l[n]?).map E.sh:=by
 rcases zxq n 5 with g | g
 ·rw[Vm E g,lo S (by omega),b n g,E.lf n g];rfl
 ·obtain⟨m,rfl⟩:=zMq g;rw[pG E g,show 5+m+E.d=5+E.d+m by omega,hi]
theorem rootOf(b:B5 S){r:Nat}(h:X6 S n r):X6 (E.R5 S) (E.rh n) (E.rh r):=by
 induction h with
 |here h1 h2=>exact .here (d:=E.sh _) (by rw[get b,h1];rfl) (by simp[sh,h2])
 |step h1 h2 _ ih=>exact .step (d:=E.sh _) (by rw[get b,h1];rfl) (by simp only[sh,h2,zoq]) ih
theorem C0G(b:B5 S){t:NT}(h:U9 S n t):U9 (E.R5 S) (E.rh n) (t.mp E.rh):=by
 induction h with
 |mk h1 h2 h3 h4 ih=>rw[NT.mp,B2O];exact .mk (d:=E.sh _) (rootOf b h1) (by rw[get b,h2];rfl) (by simpa[sh]using h3) λi a c=>by have a':=a;have c':=c;simp only[sh,zuq]at a' c';simp only[sh,zOq];exact ih i a' c'
theorem base(ok:S.Ok):B5 S:=ok.base
section
variable {S:E9}(ok:S.Ok)
include ok
theorem K5(hn:n<S.l.length):(E.R5 S).K5 (E.rh n)=(S.K5 n).mp E.rh:=(C0G (base ok) (ok.K5 hn)).eq
theorem root(hn:n<S.l.length):(E.R5 S).root (E.rh n)=E.rh (S.root n):=by unfold E9.root;rw[K5 ok hn];cases S.K5 n;rw[NT.mp];rfl
theorem roots(hn:n<S.l.length):(E.R5 S).roots (E.rh n)=(S.roots n).map E.rh:=by unfold E9.roots;rw[K5 ok hn];exact A9x E.Vl _ []
theorem F9(n:Nat):(E.R5 S).F9 (E.rh n)=S.F9 n:=by unfold E9.F9;rw[get (base ok)];cases S.l[n]?<;>rfl
theorem U8(n:Nat):(E.R5 S).U8 (E.rh n)=E.lv (S.U8 n):=by unfold E9.U8;rw[get (base ok)];cases S.l[n]?<;>rfl
theorem I1(n:Nat):(E.R5 S).I1 (E.rh n)=(S.I1 n).map E.rh:=by unfold E9.I1;rw[get (base ok)];cases S.l[n]?<;>rfl
theorem vars(hn:n<S.l.length):(E.R5 S).vars (E.rh n)=(S.vars n).map E.rh:=by unfold E9.vars;rw[roots ok hn,zWq];congr 1;exact zEq λr _=>by simp only[Function.comp];rw[F9 ok]
theorem B9T{v:Nat}(hn:n<S.l.length)(hv:v∈S.vars n):5<=v:=by
 rcases zxq v 5 with g | g
 ·have:=(zCq.1 hv).2;rw[beq_iff_eq,DU (ok.base v g)]at this;simp only at this;omega
 ·exact g
theorem lower(hn:n<S.l.length)(A8:Nat):(E.R5 S).lower (E.rh n) (E.lv A8)=E.R5 (S.lower n A8):=by
 refine ext (λk hk=>?_) (λm=>?_) rfl rfl (by simp only[E9.lower,E9.tick,R5];omega)
 ·simp only[E9.lower]
  rw[LX,lo S hk,vars ok hn];have:k∉(S.vars n).map E.rh:=λh=>by obtain⟨v,hv,e⟩:=zYq.1 h;have g:=B9T ok hn hv;rw[pG E g]at e;omega
  simp only[A7 this];cases E.bs[k]?<;>rfl
 ·simp only[E9.lower]
  rw[LX,LX,hi,vars ok hn];have e:5+E.d+m=E.rh (5+m):=by rw[pG E (by omega)];omega
  rw[e];cases S.l[5+m]? with
  |none=>rfl
  |some x=>
    simp only[zoq,vD]
    split
    ·simp only[sh,B8s]
    ·rfl
theorem link{v:Nat}(hv:v<S.l.length)(hn:n<S.l.length):(E.R5 S).link (E.rh v) (E.rh n)=(E.R5 (S.link v n).1,(S.link v n).2):=by
 unfold E9.link;rw[root ok hv,root ok hn,roots ok hn,F9 ok,U8 ok];simp only[B1s,vD];have tick:(E.R5 S).tick=E.R5 S.tick:=by simp only[E9.tick,R5];congr 1;omega
 split
 ·rfl
 ·rename_i h;split
  ·rw[tick]
  ·rename_i hw;have h6:S.F9 (S.root v)=6:=Classical.not_not.1 λg=>h (.inl g);have vH:=UA ok hv hn h6 hw;have h5:5<=S.root v:=by
    rcases zxq (S.root v) 5 with g | g
    ·rw[DU (ok.base _ g)]at h6;simp only at h6;omega
    ·exact g
   have e1:(E.R5 S).tick.BF (E.rh (S.root v)) (E.rh (S.root n))=E.R5 (S.tick.BF (S.root v) (S.root n)):=by
    rw[tick];refine ext (λk hk=>?_) (λm=>?_) rfl rfl rfl
    ·rw[Ep,lo _ hk,pG E h5];cases E.bs[k]? with
     |none=>rfl
     |some x=>rw[zoq,A7 (by omega)]
    ·rw[Ep,Ep,hi];have e:5+E.d+m=E.rh (5+m):=by rw[pG E (by omega)];omega
     rw[e];cases S.tick.l[5+m]? with
     |none=>rfl
     |some x=>
       simp only[zoq,B1s]
       split<;>rfl
   rw[e1,lower vH (by simp only[E9.BF,List.length_modify];exact ok.Gs hn)]
end
theorem tick(S:E9):(E.R5 S).tick=E.R5 S.tick:=by simp only[E9.tick,R5];congr 1;omega
theorem add(h:5<=S.l.length)(x:Nd):(E.R5 S).add (E.sh x)=E.R5 (S.add x):=by simp only[E9.add,R5];rw[List.drop_append_of_le_length h,zpq,List.append_assoc];congr 1;omega
variable {A8:Nat}
theorem var(ok:S.Ok)(ok':(E.R5 S).Ok)(r:E.Rm S)(h7:((E.R5 S).var (E.lv A8)).2.2≠7):(E.R5 S).var (E.lv A8)=(E.R5 (S.var A8).1,E.rh (S.var A8).2.1,(S.var A8).2.2):=by
 have f5:=ok.five;have cm:=ok'.cm;unfold Rm at r;simp only[R5]at cm;unfold E9.var at h7 ⊢;by_cases g:(E.R5 S).cnt=(E.R5 S).mx
 ·rw[A9 g]at h7;exact absurd rfl h7
 ·have g2:¬S.cnt=S.mx:=by simp only[R5]at g;omega
  rw[A7 g,A7 g2];have:=add (E:=E) f5 ⟨6,A8,none,[]⟩;simp only[A1P f5,<- this]
  try rfl
theorem make(ok:S.Ok)(ok':(E.R5 S).Ok)(r:E.Rm S){k a b:Nat}(h7:((E.R5 S).make k (E.rh a) (E.rh b)).2.2≠7):(E.R5 S).make k (E.rh a) (E.rh b)=(E.R5 (S.make k a b).1,E.rh (S.make k a b).2.1,(S.make k a b).2.2):=by
 have f5:=ok.five;have cm:=ok'.cm;unfold Rm at r;simp only[R5]at cm;unfold E9.make at h7 ⊢;by_cases g:(E.R5 S).cnt=(E.R5 S).mx
 ·rw[A9 g]at h7;exact absurd rfl h7
 ·have g2:¬S.cnt=S.mx:=by simp only[R5]at g;omega
  rw[A7 g,A7 g2];have:=add (E:=E) f5 ⟨k,0,none,if k=8 then[a]else[a,b]⟩;simp only[A1P f5,<- this];simp only[sh,lv0,zRq]
  congr 3;split<;>rfl
theorem B04(h:E.lv A8<2 ^ 31):A8<2 ^ 31:=by unfold lv at h;split at h<;>omega
theorem fresh{A8:Nat}(hl:E.lv A8<2 ^ 31):∀(k:Nat){S:E9},S.Ok->(E.R5 S).Ok->E.Rm S->(E9.fresh (E.lv A8) k (E.R5 S)).2.2≠7->E9.fresh (E.lv A8) k (E.R5 S)=(E.R5 (E9.fresh A8 k S).1,(E9.fresh A8 k S).2.1.map E.rh,(E9.fresh A8 k S).2.2)
 |0,S,ok,ok',r,h7=>rfl
 |k+1,S,ok,ok',r,h7=>by
   rw[E9.fresh]at h7;have v7:((E.R5 S).var (E.lv A8)).2.2≠7:=λg=>by rw[A7 (by omega)]at h7;exact h7 g
   have v:=var ok ok' r v7;have vo:=(Lg ok (B04 hl)).1;have vm:=(Lg ok (B04 hl)).2.1.mx;have vo':=(Lg ok' hl).1;rw[E9.fresh,E9.fresh];rw[v]at h7 vo' ⊢;simp only at h7 vo' ⊢;by_cases e0:(S.var A8).2.2=0
   ·rw[A9 e0]at h7;rw[A9 e0,A9 e0,fresh hl k vo vo' (by unfold Rm at r ⊢;rw[vm];exact r) h7];rfl
   ·rw[A7 e0,A7 e0];rfl
end Mb
namespace Mb
variable {E:Mb}
theorem B5F(l:List Nat)(i:Nat):(l.map E.rh).getD i 0=E.rh (l.getD i 0):=by
 rw[z5q,z5q,y2q];cases l[i]? with
 |none=>exact(Vm E (n:=0) (by omega)).symm
 |some x=>rfl
variable {S:E9}
theorem become(ok:S.Ok)(ok':(E.R5 S).Ok)(r:E.Rm S){v w:Nat}(hv:v<S.l.length)(hw:w<S.l.length)(rw_:S.root w=w)(fC:w≠4)(h7:((E.R5 S).become (E.rh v) (E.rh w)).2.2≠7):(E.R5 S).become (E.rh v) (E.rh w)=(E.R5 (S.become v w).1,(S.become v w).2.1.map E.rh,(S.become v w).2.2):=by
 have m4:4∉(S.roots w).map E.rh↔4∉S.roots w:=by have:=E.vD (x:=4) (l:=S.roots w);rw[Vm E (by omega)]at this;exact not_congr this
 have hlv:E.lv (S.U8 v)<2 ^ 31:=by rw[<- U8 (E:=E) ok];exact ok'.A8 (xD ok.five hv)
 unfold E9.become at h7 ⊢;rw[F9 ok,roots ok hw,link ok hv hw,tick,link ok.tick hv hw,U8 ok,I1 ok,zuq,tick]at h7 ⊢;simp only[m4,vD]at h7 ⊢;by_cases k6:S.F9 w=6
 ·rw[A9 k6,A9 k6];rfl
 rw[A7 k6]at h7;rw[A7 k6,A7 k6];by_cases R8:4∈S.roots w
 ·have n4:¬ 4∉S.roots w:=λg=>g R8;rw[A7 n4]at h7;rw[A7 n4,A7 n4];by_cases Io:v∈S.roots w
  ·rw[A9 Io,A9 Io];rfl
  ·rw[A7 Io]at h7;rw[A7 Io,A7 Io];have UC:=ok.tick.tick;have B8E:(E.R5 S.tick.tick).Ok:=by rw[<- tick,<- tick];exact ok'.tick.tick
   have rt:E.Rm S.tick.tick:=r;obtain⟨f1,f2,f3,f4,f5,f6⟩:=FR (B04 hlv) (S.I1 w).length _ UC;have fo':=(FR hlv (S.I1 w).length _ B8E).1;have fr7:(E9.fresh (E.lv (S.U8 v)) (S.I1 w).length (E.R5 S.tick.tick)).2.2≠7:=λg=>by rw[A9 (by omega)]at h7;exact h7 g
   have fr:=fresh hlv (S.I1 w).length UC B8E rt fr7;rw[fr]at h7 fo' ⊢;simp only at h7 fo' ⊢;generalize E9.fresh (S.U8 v) (S.I1 w).length S.tick.tick=q at h7 fo' f1 f2 f3 f4 f5 f6 ⊢;have kn:=ok.Yl hw;have kw:=ok.knd hw;by_cases e0:q.2.2=0
   ·have nq:¬q.2.2≠0:=λg=>g e0;simp only[A7 nq]at h7 ⊢;have WQ:S.F9 w=7\/S.F9 w=8\/S.F9 w=9:=by
     by_cases A5d:S.F9 w<=5
     ·exfalso;have h0:(S.I1 w).length=0:=by rw[kn];unfold NH;rw[A7 (by omega),A7 (by omega)]
      have hu:=ok.K5 hw;obtain⟨d,d1,-,d3,d4,-⟩:=hu.nd;have hr:(S.K5 w).r=w:=rw_;rw[hr]at d1;have hk:(S.K5 w).D5=[]:=by
       have:d.D5.length=0:=by rw[<- ED d1];exact h0
       exact z9q.1 (by omega)
      have h4:=(ok.DW hw).1 R8;rcases NT.CF.1 h4 with e | ⟨u,hu,-⟩
      ·exact absurd (show w=4 by rw[<- hr];exact e.symm) fC
      ·rw[hk]at hu;cases hu
     ·omega
    have ql:=f6 e0;rw[kn]at ql;have n0:q.2.1.getD 0 0<q.1.l.length:=by
     have:0<q.2.1.length:=by rw[ql];unfold NH;split<;>(try split)<;>omega
     rw[z5q,z3q this];exact f5 _ (z8q this)
    have n1:S.F9 w≠8->q.2.1.getD 1 0<q.1.l.length:=by
     intro h8;have:1<q.2.1.length:=by rw[ql];unfold NH;rw[A7 h8,A9 (by omega)];omega
     rw[z5q,z3q this];exact f5 _ (z8q this)
    obtain⟨p1,p2,p3,p4,p5,p6⟩:=Gd f1 WQ n0 n1;have rq:E.Rm q.1:=by unfold Rm at r ⊢;rw[f2.mx];exact r
    rw[B5F,B5F]at h7 ⊢;have mk7:((E.R5 q.1).make (S.F9 w) (E.rh (q.2.1.getD 0 0)) (E.rh (q.2.1.getD 1 0))).2.2≠7:=λg=>by rw[A9 (by omega)]at h7;exact h7 g
    rw[make f1 fo' rq mk7]at h7 ⊢;simp only at h7 ⊢;generalize q.1.make (S.F9 w) (q.2.1.getD 0 0) (q.2.1.getD 1 0)=z at p1 p2 p3 p4 p5 p6 ⊢;split
    ·rfl
    ·rw[link p1 (z0q hv (z7q f2.le p2.le)) p4];rfl
   ·have nq:q.2.2≠0:=e0;simp only[A9 nq];rfl
 ·have n4:4∉S.roots w:=R8;rw[A9 n4,A9 n4];rfl
def pr(E:Mb)(p:Nat×Nat):Nat×Nat:=(E.rh p.1,E.rh p.2)
theorem zip(a b:List Nat):(a.map E.rh).zip (b.map E.rh)=(a.zip b).map E.pr:=by rw[List.zip_map];rfl
def Q6:∀(f:Nat)(S:E9)(l:List (Nat×Nat))(q':E9×Nat×Nat×Nat),S.Ok->(E.R5 S).Ok->E.Rm S->(∀p∈l,p.1<S.l.length/\p.2<S.l.length)->E9.Q6 f (E.R5 S) (l.map E.pr)=some q'->q'.2.2.2≠7->∃q,E9.Q6 f S l=some q/\q'=(E.R5 q.1,q.2)
 |0,S,l,q',ok,ok',r,hl,h,h7=>by simp[E9.Q6]at h
 |f+1,S,[],q',ok,ok',r,hl,h,h7=>by simp only[zDq,E9.Q6,D8]at h;exact⟨(S,0,0,0),rfl,h.symm⟩
 |f+1,S,p::rest,q',ok,ok',r,hl,h,h7=>by
   obtain⟨p1,p2⟩:=hl p (z4q ..);have CJ:∀q∈rest,q.1<S.l.length/\q.2<S.l.length:=λq hq=>hl q (z2q _ hq);have x1:=ok.Gs p1;have x2:=ok.Gs p2;have low:∀n,∀q∈rest,q.1<(S.lower n 0).l.length/\q.2<(S.lower n 0).l.length:=λn q hq=>by rw[show(S.lower n 0).l.length=S.l.length from Np ..];exact CJ q hq
   have D5:∀(T:E9)(x y:Nat),T.Ok->S.l.length<=T.l.length->x<T.l.length->y<T.l.length->∀q∈(T.I1 (T.root x)).zip (T.I1 (T.root y))++rest,q.1<T.l.length/\q.2<T.l.length:=by
    intro T x y okT e hx hy q hq;rcases zaq.1 hq with hq | hq
    ·exact⟨okT.Nn hx (zmq hq).1,okT.Nn hy (zmq hq).2⟩
    ·exact⟨z0q (CJ q hq).1 e,z0q (CJ q hq).2 e⟩
   have lw:∀n,n<S.l.length->(E.R5 S).lower (E.rh n) 0=E.R5 (S.lower n 0):=λn hn=>by have:=lower (E:=E) ok hn 0;rw[lv0]at this;exact this
   have lo':∀n,n<S.l.length->(E.R5 (S.lower n 0)).Ok:=λn hn=>by rw[<- lw n hn];exact ok'.lower _ _
   rw[zdq,Y8]at h;rw[Y8];have r1:(E.R5 S).root (E.pr p).1=E.rh (S.root p.1):=root ok p1;have r2:(E.R5 S).root (E.pr p).2=E.rh (S.root p.2):=root ok p2;simp only[r1,r2,B1s,B3e,F9 ok,lw _ x1,lw _ x2,I1 ok,zip,<- zpq]at h;by_cases c1:S.root p.1=S.root p.2
   ·rw[A9 c1]at h ⊢;exact Q6 f S rest q' ok ok' r CJ h h7
   rw[A7 c1]at h ⊢;by_cases c2:S.root p.1=4
   ·rw[A9 c2]at h ⊢;exact Q6 f _ rest q' (ok.lower _ _) (lo' _ x2) r (low _) h h7
   rw[A7 c2]at h ⊢;by_cases c3:S.root p.2=4
   ·rw[A9 c3]at h ⊢;exact Q6 f _ rest q' (ok.lower _ _) (lo' _ x1) r (low _) h h7
   rw[A7 c3]at h ⊢;have bec:∀(v w:Nat),v<S.l.length->w<S.l.length->S.root v=v->S.root w=w->v≠w->w≠4->v≠4->S.F9 v=6->∀(X X':E9×Option Nat×Nat->Nat->List (Nat×Nat)),(∀(b:E9×Option Nat×Nat)(k:Nat),b.1.Ok->S.l.length<=b.1.l.length->k<b.1.l.length->X' (E.R5 b.1,b.2.1.map E.rh,b.2.2) (E.rh k)=(X b k).map E.pr/\∀q∈X b k,q.1<b.1.l.length/\q.2<b.1.l.length)->
    (if ((E.R5 S).become (E.rh v) (E.rh w)).2.2≠0 then some (((E.R5 S).become (E.rh v) (E.rh w)).1,0,0,((E.R5 S).become (E.rh v) (E.rh w)).2.2)
     else match ((E.R5 S).become (E.rh v) (E.rh w)).2.1 with
      |none=>E9.Q6 f ((E.R5 S).become (E.rh v) (E.rh w)).1 (rest.map E.pr)
      |some k=>E9.Q6 f ((E.R5 S).become (E.rh v) (E.rh w)).1 (X' ((E.R5 S).become (E.rh v) (E.rh w)) k))=some q'->
    ∃q,(if (S.become v w).2.2≠0 then some ((S.become v w).1,0,0,(S.become v w).2.2)
     else match (S.become v w).2.1 with
      |none=>E9.Q6 f (S.become v w).1 rest
      |some k=>E9.Q6 f (S.become v w).1 (X (S.become v w) k))=some q/\q'=(E.R5 q.1,q.2):=by
    intro v w hv hw rv rw_ hne fC h4v h6 X X' hX h;have b7:((E.R5 S).become (E.rh v) (E.rh w)).2.2≠7:=λg=>by rw[A9 (by omega)]at h;simp only[D8]at h;subst h;exact h7 g
    have B:=LA ok hv hw rv rw_ hne fC h6;have B':=LA ok' (xD ok.five hv) (xD ok.five hw) (by rw[root ok hv,rv]) (by rw[root ok hw,rw_]) (λg=>hne (E.Vl _ _ g)) (λg=>fC (B3e E |>.1 g)) (by rw[F9 ok];exact h6);rw[become ok ok' r hv hw rw_ fC b7]at h B';have Vg:=B'.ok;generalize S.become v w=b at B h Vg ⊢;simp only at h Vg;have rb:E.Rm b.1:=by unfold Rm at r ⊢;rw[B.ext.mx];exact r
    by_cases e0:b.2.2=0
    ·have n0:¬b.2.2≠0:=λg=>g e0;rw[A7 n0]at h ⊢;cases hb:b.2.1 with
     |none=>rw[hb]at h;exact Q6 f _ rest q' B.ok Vg rb (λq hq=>⟨z0q (CJ q hq).1 B.ext.le,z0q (CJ q hq).2 B.ext.le⟩) h h7
     |some k=>obtain⟨t1,t2⟩:=hX b k B.ok B.ext.le (B.some k e0 hb).1;rw[hb]at h t1;simp only[zoq]at h t1;rw[t1]at h;exact Q6 f _ _ q' B.ok Vg rb t2 h h7
    ·have n0:b.2.2≠0:=e0;rw[A9 n0]at h ⊢;simp only[D8]at h;exact⟨_,rfl,h.symm⟩
   by_cases c4:S.F9 (S.root p.1)=6
   ·rw[A9 c4]at h ⊢;exact bec _ _ x1 x2 (ok.rr p1) (ok.rr p2) c1 c3 c2 c4 (λb k=>(b.1.I1 (b.1.root k)).zip (b.1.I1 (b.1.root (S.root p.2)))++rest) (λb k=>(b.1.I1 (b.1.root k)).zip (b.1.I1 (b.1.root (E.rh (S.root p.2))))++rest.map E.pr) (λb k Vg le hk=>by have xl:=z0q x2 le;refine⟨?_,D5 _ _ _ Vg le hk xl⟩;simp only;rw[root Vg hk,root Vg xl,I1 Vg,I1 Vg,zip,<- zpq]) h
   rw[A7 c4]at h ⊢;by_cases c5:S.F9 (S.root p.2)=6
   ·rw[A9 c5]at h ⊢;exact bec _ _ x2 x1 (ok.rr p2) (ok.rr p1) (Ne.symm c1) c2 c3 c5 (λb k=>(b.1.I1 (b.1.root (S.root p.1))).zip (b.1.I1 (b.1.root k))++rest) (λb k=>(b.1.I1 (b.1.root (E.rh (S.root p.1)))).zip (b.1.I1 (b.1.root k))++rest.map E.pr) (λb k Vg le hk=>by have xl:=z0q x1 le;refine⟨?_,D5 _ _ _ Vg le xl hk⟩;simp only;rw[root Vg hk,root Vg xl,I1 Vg,I1 Vg,zip,<- zpq]) h
   rw[A7 c5]at h ⊢;by_cases c6:S.F9 (S.root p.1)=S.F9 (S.root p.2)
   ·have n6:¬S.F9 (S.root p.1)≠S.F9 (S.root p.2):=λg=>g c6;rw[A7 n6]at h ⊢;exact Q6 f S _ q' ok ok' r (D5 S _ _ ok (z1q _) p1 p2) h h7
   ·have n6:S.F9 (S.root p.1)≠S.F9 (S.root p.2):=c6;rw[A9 n6]at h ⊢;simp only[D8]at h;exact⟨_,rfl,h.symm⟩
def agree(ok:S.Ok)(ok':(E.R5 S).Ok)(r:E.Rm S){a b:Nat}(ha:a<S.l.length)(hb:b<S.l.length)(h7:((E.R5 S).agree (E.rh a) (E.rh b)).2.2.2≠7):(E.R5 S).agree (E.rh a) (E.rh b)=(E.R5 (S.agree a b).1,(S.agree a b).2):=by obtain⟨f,hf⟩:=aT ok' (xD ok.five ha) (xD ok.five hb);obtain⟨q,q1,q2⟩:=Q6 (E:=E) f S [(a,b)] _ ok ok' r (by simp[ha,hb]) hf h7;rw[zN ok ha hb q1];exact q2
def A87(x:Nd)(h:5<=S.l.length):5<=(S.add x).l.length:=by simp only[E9.add,ziq];omega
def KZ(t:Ty):t.rc->∀S:E9,5<=S.l.length->KZ t (E.R5 S)=(E.R5 (Su.KZ t S).1,E.rh (Su.KZ t S).2)/\5<=(Su.KZ t S).1.l.length:=by
 induction t using Ty.ind with
 |h t ih=>
   intro hr S h5;rw[lL,lL];rcases hr.E8 with⟨e,h1,h2,-⟩ | ⟨e,h1,h2,h3,-⟩
   ·rw[e];simp only[zTq,F6];exact⟨by rw[Vm E (by omega)],h5⟩
   ·have hl:¬t.D5.length=0:=λg=>e (z9q.1 g);rw[A7 hl,A7 hl];have key:∀(ts:List Ty),(∀k∈ts,k∈t.D5)->∀S:E9,5<=S.l.length->BH ts (E.R5 S)=(E.R5 (BH ts S).1,(BH ts S).2.map E.rh)/\5<=(BH ts S).1.l.length:=by
     intro ts;induction ts with
     |nil=>intro _ S h;rw[BH,BH];exact⟨rfl,h⟩
     |cons k ts ihs=>intro hs S h;have hk:=hs k (z4q ..);obtain⟨a,a2⟩:=ih k hk (hr.kid hk) S h;obtain⟨c,c2⟩:=ihs (λw hw=>hs w (z2q _ hw)) _ a2;rw[BH,BH,a];simp only;rw[c];exact⟨rfl,c2⟩
    obtain⟨a,a2⟩:=key t.D5 (λk hk=>hk) S h5;rw[a];simp only;have:=add (E:=E) a2 ⟨t.E8.toNat,0,none,(BH t.D5 S).2⟩;rw[<- this,A1P a2];exact⟨rfl,A87 _ a2⟩
def put(ok:S.Ok)(r:E.Rm S){t:Ty}(ht:t.rc)(h7:((E.R5 S).put t).2.2≠7):(E.R5 S).put t=(E.R5 (S.put t).1,E.rh (S.put t).2.1,(S.put t).2.2):=by
 have e:(E.R5 S).mx-(E.R5 S).cnt<=S.mx-S.cnt:=by unfold Rm at r;simp only[R5];omega
 unfold E9.put at h7 ⊢;by_cases g:KP t>(E.R5 S).mx-(E.R5 S).cnt
 ·rw[A9 g]at h7;exact absurd rfl h7
 ·rw[A7 g,A7 (by omega),(KZ t ht S ok.five).1]
variable (K:List (Nat×Nat))
def B39(t:NT):∀(S:E9)(M:List (Nat×Nat)),5<=S.l.length->(t.mp E.rh).copy (K.map E.pr) (E.R5 S,M.map E.pr)=(E.rh (t.copy K (S,M)).1,E.R5 (t.copy K (S,M)).2.1,(t.copy K (S,M)).2.2.map E.pr)/\5<=(t.copy K (S,M)).2.1.l.length:=by
 induction t using NT.ind with
 |h r k ts ih=>
   intro S M h5;have fm:∀K:List (Nat×Nat),E_ (K.map E.pr) (E.rh r)=(E_ K r).map E.rh:=A56 E.Vl r;have mf:(K.map E.pr).map (·.1)=(K.map (·.1)).map E.rh:=by rw[zBq,zBq];rfl
   have hs:=A6y E.Vl (K.map (·.1)) (NT.mk r k ts);rw[NT.mp]at hs;rw[NT.mp,NT.copy,NT.copy,fm,mf,hs,fm];cases E_ K r with
   |some t=>exact⟨rfl,h5⟩
   |none=>
     simp only[zRq]
     by_cases hh:(NT.mk r k ts).has (K.map (·.1))=false
     ·rw[A9 hh,A9 hh];exact⟨rfl,h5⟩
     ·rw[A7 hh,A7 hh];cases E_ M r with
      |some t=>exact⟨rfl,h5⟩
      |none=>
        simp only[zRq];have key:∀(us:List NT),(∀u∈us,u∈ts)->∀(S:E9)(M:List (Nat×Nat)),5<=S.l.length->NT.V3 (K.map E.pr) (NT.YR E.rh us) (E.R5 S,M.map E.pr)=((NT.V3 K us (S,M)).1.map E.rh,E.R5 (NT.V3 K us (S,M)).2.1,(NT.V3 K us (S,M)).2.2.map E.pr)/\5<=(NT.V3 K us (S,M)).2.1.l.length:=by
         intro us;induction us with
         |nil=>intro _ S M h;rw[NT.YR,NT.V3,NT.V3];exact⟨rfl,h⟩
         |cons u us ihu=>intro hs S M h;obtain⟨a,a2⟩:=ih u (hs u (z4q ..)) S M h;obtain⟨c,c2⟩:=ihu (λw hw=>hs w (z2q _ hw)) (u.copy K (S,M)).2.1 (u.copy K (S,M)).2.2 a2;rw[NT.YR,NT.V3,NT.V3,a];simp only;rw[c];exact⟨rfl,c2⟩
        obtain⟨a,a2⟩:=key ts (λu hu=>hu) S M h5;rw[a];simp only;generalize NT.V3 K ts (S,M)=q at a2 ⊢;have:=add (E:=E) a2 ⟨k,0,none,q.1⟩;rw[<- this,A1P a2];exact⟨by rw[zpq];rfl,A87 _ a2⟩
theorem keys{S:E9}(ok:S.Ok):∀(fs ts:List Nat)(K:List (Nat×Nat)),(∀f∈fs,f<S.l.length)->(E.R5 S).keys (fs.map E.rh) (ts.map E.rh) (K.map E.pr)=(S.keys fs ts K).map (List.map E.pr)
 |[],ts,K,_=>rfl
 |f::fs,ts,K,h=>by
   have mf:(K.map E.pr).map (·.1)=(K.map (·.1)).map E.rh:=by rw[zBq,zBq];rfl
   have h0:(ts.map E.rh).headD 0=E.rh (ts.headD 0):=by
    cases ts with
    |nil=>exact(Vm E (n:=0) (by omega)).symm
    |cons t ts=>rfl
   have ht:(ts.map E.rh).tail=ts.tail.map E.rh:=by cases ts<;>rfl
   rw[zdq,E9.keys,E9.keys,root ok (h f (z4q ..)),F9 ok,mf,h0,ht];simp only[vD]
   split
   ·have:=keys ok fs ts.tail (K++[(S.root f,ts.headD 0)]) λx hx=>h x (z2q _ hx);rw[zpq]at this;exact this
   ·rfl
def need(ok:S.Ok){n:Nat}(hn:n<S.l.length)(K:List (Nat×Nat)):(E.R5 S).need (K.map E.pr) (E.rh n)=S.need K n:=by
 have mf:(K.map E.pr).map (·.1)=(K.map (·.1)).map E.rh:=by rw[zBq,zBq];rfl
 unfold E9.need;rw[roots ok hn,zWq,zuq,mf];congr 1;refine zEq λr hr=>?_;simp only[Function.comp];rw[F9 ok,K5 ok (ok.Lp hn hr),A6y E.Vl]
def copy(ok:S.Ok)(r:E.Rm S){n:Nat}(hn:n<S.l.length){fs ts:List Nat}(hf:∀f∈fs,f<S.l.length)(h7:((E.R5 S).copy (E.rh n) (fs.map E.rh) (ts.map E.rh)).2.2≠7):(E.R5 S).copy (E.rh n) (fs.map E.rh) (ts.map E.rh)=(E.R5 (S.copy n fs ts).1,E.rh (S.copy n fs ts).2.1,(S.copy n fs ts).2.2):=by
 have e:(E.R5 S).mx-(E.R5 S).cnt<=S.mx-S.cnt:=by unfold Rm at r;simp only[R5];omega
 have hk:=keys (E:=E) ok fs ts [] hf;rw[zDq]at hk;unfold E9.copy at h7 ⊢;rw[hk]at h7 ⊢;cases EP:S.keys fs ts []with
 |none=>simp only[zRq];rw[Vm E (n:=0) (by omega)]
 |some K=>
   rw[EP]at h7;simp only[zoq]at h7 ⊢;rw[need ok hn,K5 ok hn,tick]at h7 ⊢;have c:=(B39 (E:=E) K (S.K5 n) S.tick [] ok.five).1;rw[zDq]at c;rw[c]at h7 ⊢;by_cases g:S.need K n>(E.R5 S).mx-(E.R5 S).cnt
   ·rw[A9 g]at h7;exact absurd rfl h7
   ·rw[A7 g,A7 (by omega)]
end Mb
section
variable (E:Mb)
def wS{o:Nat}{S:E9}{q q':E9×Nat×Nat}(h:q'.2.2≠7->q'=(E.R5 q.1,E.rh q.2.1,q.2.2))(r:E.Rm S)(hm:q.1.mx=S.mx)(hb:o=S.l.length)(le:S.l.length<=q.1.l.length)(lt:q.2.1<q.1.l.length):
 (q'.2.2≠7->q.2.2=q'.2.2/\∃o',o<=o'/\(q'.1=E.R5 q.1/\o'=q.1.l.length/\E.Rm q.1)/\(q'.2.1=E.rh q.2.1/\q.2.1<max o' 5))/\(q'.2.2=7->q.2.2≠0\/(-1:Int)<q.1.cnt):=by
 refine⟨λh7=>?_,λh=>.inr (by omega)⟩;rw[h h7];exact⟨rfl,q.1.l.length,by omega,⟨rfl,rfl,by unfold Mb.Rm at r ⊢;rw[hm];exact r⟩,rfl,by omega⟩
def L2.sw{f:Nat->Nat}{P:Nat->Prop}{l k:List Nat}(h:L2 (λn n'=>n=f n'/\P n') l k):l=k.map f/\∀x∈k,P x:=by
 induction h with
 |nil=>exact⟨rfl,by simp⟩
 |cons a _ ih=>exact⟨by rw[a.1,ih.1];rfl,λx hx=>by
    rcases zeq.1 hx with rfl | hx
    ·exact a.2
    ·exact ih.2 x hx⟩
def L2.ofM{f:Nat->Nat}{P:Nat->Prop}:∀{l:List Nat},(∀x∈l,P x)->L2 (λn n'=>n=f n'/\P n') (l.map f) l
 |[],_=>.nil
 |x::l,h=>.cons ⟨rfl,h x (z4q ..)⟩ (L2.ofM λy hy=>h y (z2q _ hy))
noncomputable def B2l:TZ where
 Wd:=Nat
 le:=λa b=>a<=b
 rf:=λa=>z1q a
 tr:=λh k=>z7q h k
 T:=λb S' S=>S'=E.R5 S/\b=S.l.length/\E.Rm S
 N:=λb n' n=>n'=E.rh n/\n<max b 5
 nm:=λle h=>⟨h.1,by have:=h.2;omega⟩
 lv:=λb a=>1<=a/\b=a+E.dl
 lvs:=λh=>⟨by omega,by omega⟩
 R6 := -1
 leaf:=λo j hj=>⟨(Mb.Vm E hj).symm,by omega⟩
 tick:=λh=>⟨by rw[h.1,Mb.tick],h.2⟩
 var:=λ{o S' S lev' A8} ok' ok t L l1 l2=>by
  obtain⟨rfl,hb,r⟩:=t;obtain⟨L1,rfl⟩:=L;obtain⟨-,g,-,lt,-⟩:=Lg ok l2;have e:A8+E.dl=E.lv A8:=by unfold Mb.lv;rw[A7 (by omega)]
  rw[e];exact wS E (Mb.var ok ok' r) r g.mx hb g.le lt
 make:=λ{o S' S k a' b' a b} ok' ok t hk ha hb=>by
  obtain⟨rfl,hl,r⟩:=t;have f5:=ok.five;obtain⟨rfl,ha⟩:=ha;have e:(E.R5 S).make k (E.rh a) b'=(E.R5 S).make k (E.rh a) (E.rh b):=by
   unfold E9.make;by_cases h8:k=8
   ·simp only[A9 h8]
   ·rw[(hb h8).1]
  rw[e];obtain⟨-,g,-,lt,-⟩:=Gd ok (x:=a) (y:=b) hk (by omega) (λh=>by have:=(hb h).2;omega);exact wS E (Mb.make ok ok' r) r g.mx hl g.le lt
 put:=λ{o S' S t} ok' ok t' ht=>by obtain⟨rfl,hl,r⟩:=t';obtain⟨-,g,-,lt⟩:=A7j ok ht;exact wS E (Mb.put ok r ht) r g.mx hl g.le lt
 agree:=λ{o S' S a' b' a b} ok' ok t ha hb=>by obtain⟨rfl,hl,r⟩:=t;have f5:=ok.five;obtain⟨rfl,ha⟩:=ha;obtain⟨rfl,hb⟩:=hb;obtain⟨-,g,-⟩:=aU ok (a:=a) (b:=b) (by omega) (by omega);refine⟨λh=>?_,λh=>.inr (by omega)⟩;have x:=Mb.agree (E:=E) ok ok' r (a:=a) (b:=b) (by omega) (by omega) h;rw[x];exact⟨rfl,_,by rw[hl];exact g.le,rfl,rfl,by unfold Mb.Rm at r ⊢;rw[g.mx];exact r⟩
 copy:=λ{o S' S n' n f' f t' t} ok' ok T hn hf ht hl=>by
  obtain⟨rfl,hb,r⟩:=T;have f5:=ok.five;obtain⟨rfl,hn⟩:=hn;obtain⟨rfl,hf1⟩:=L2.sw hf;obtain⟨rfl,ZL⟩:=L2.sw ht;have ht':∀x∈t,x<S.l.length:=λx hx=>by have:=ZL x hx;omega
  have hf':∀x∈f,x<S.l.length:=λx hx=>by have:=hf1 x hx;omega
  rw[zuq,zuq]at hl;obtain⟨-,g,lt⟩:=aZ ok (n:=n) (by omega) hl ht';exact wS E (Mb.copy ok r (by omega) hf') r g.mx hb g.le lt
 vars:=λ{o S' S n' n lev' A8} ok' ok T hn L=>by
  obtain⟨rfl,hb,-⟩:=T;have f5:=ok.five;obtain⟨rfl,hn⟩:=hn;obtain⟨L1,rfl⟩:=L;rw[Mb.vars ok (by omega),zWq];have e:(S.vars n).filter ((λv=>decide (A8+E.dl<(E.R5 S).U8 v))∘E.rh)=(S.vars n).filter λv=>decide (A8<S.U8 v):=by refine zEq λv _=>?_;simp only[Function.comp];rw[Mb.U8 ok];refine decide_eq_decide.2 ?_;unfold Mb.lv;split<;>omega
  rw[e];refine L2.ofM λx hx=>?_;have:=ok.Lp (n:=n) (by omega) (zCq.1 (zCq.1 hx).1).1;omega
 E8:=λ{o S' S n' n} ok' ok T hn=>by obtain⟨rfl,hb,-⟩:=T;obtain⟨rfl,hn⟩:=hn;have f5:=ok.five;rw[Mb.root ok (by omega),Mb.F9 ok]
 D5:=λ{o S' S n' n} ok' ok T hn=>by obtain⟨rfl,hb,-⟩:=T;obtain⟨rfl,hn⟩:=hn;have f5:=ok.five;rw[Mb.root ok (by omega),Mb.I1 ok];refine L2.ofM λx hx=>?_;have:=ok.Nn (n:=n) (by omega) hx;omega
 lt:=λ{o S' S n' n} ok' ok T hn=>by obtain⟨rfl,hb,-⟩:=T;obtain⟨rfl,hn⟩:=hn;have f5:=ok.five;exact⟨Mb.xD f5 (by omega),by omega⟩
end
end Go.Su
