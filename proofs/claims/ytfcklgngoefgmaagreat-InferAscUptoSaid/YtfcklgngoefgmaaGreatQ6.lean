/-
  Parts of the proof, merged: TN1, TN2, TN3, TN4, TN5, TN6, TN7, TN8, TN9, TN10, TN11, TN12, TN13, TN14, TN15, TN16, TN17, TN18, TN19, TN20.
-/
import Derived.Test.YtfcklgngoefgmaaGreatQ4
import Derived.Test.YtfcklgngoefgmaaGreatQ5
set_option linter.unusedVariables false
set_option linter.unusedSimpArgs false
set_option linter.unusedSectionVars false
/-
 The store's functions: a store in memory; what reads it.
-/
open Bool renaming false_eq_true → z1q, not_true → z4q, not_false → zcq, true_and → zmq, and_eq_true → zMq, and_self → yjq
open List renaming getD_cons_zero → z0q, getElem?_set_ne → z2q, drop_eq_getElem_cons → z3q, getElem?_eq_some_iff → z6q, getElem_mem → z7q, length_nil → z8q, drop_of_length_le → z9q, getElem?_append_left → zaq, drop_zero → zbq, length_cons → zdq, getElem?_eq_getElem → zfq, length_append → zgq, not_mem_nil → zhq, mem_singleton → ziq, length_map → zjq, getElem?_append_right → zlq, mem_cons → znq, length_drop → zoq, getD_eq_getElem?_getD → zpq, map_nil → zqq, nil_append → zrq, mem_cons_of_mem → zsq, getElem?_set → zvq, mem_map_of_mem → zwq, set_set → zxq, getElem?_zipWith → zyq, mem_append → zzq, mem_cons_self → zAq, mem_of_mem_drop → zBq, mem_iff_getElem → zCq, length_zipWith → zDq, take_of_length_le → zEq, getElem?_set_self → zFq, set_append_right → zIq, map_cons → zJq, ext_getElem? → zKq, length_set → zLq, length_eq_zero_iff → zNq, take_succ_eq_append_getElem → zOq, getElem?_cons_zero → zPq, getElem?_cons_succ → zQq, set_cons_zero → zRq, append_assoc → zSq, length_filter_le → zTq, of_mem_zip → zXq, getElem_tail → zYq, filter_cons → zZq, getElem_zip → y1q, append_nil → y3q, map_append → y4q, length_zip → y5q, getElem_zipWith → y6q, sum_cons → y8q, idxOf_append → yaq, take_length → ybq, drop_length → ycq, length_tail → ydq, filter_nil → yeq, mem_filter → yfq, find?_cons → ygq, nodup_nil → yhq
open Nat renaming lt_of_lt_of_le → z5q, le_refl → zeq, lt_irrefl → zkq, le_trans → zGq, zero_add → zHq, sub_self → zVq, zero_lt_one → y0q, lt_of_le_of_lt → y7q, min_le_right → y9q
open Option renaming isSome_none → ztq, isSome_some → zuq, getD_some → zUq, map_some → zWq, map_none → y2q, getD_none → yiq
namespace Go.Su
set_option linter.defProp false
def I7{α β : Type}(a : α)(f : α->Option β):ob (some a) f=f a:=by first | (simp only[ob];done) | (simp only[ob];rfl)
variable (n:Nat)
def iN:DV:=.int .i64 (n:Int)
def lnk:Option Nat->DV
 |none=>.int .i64 (-1)
 |some m=>iN m
variable (d:Nd)(m:Nat)
def Nd.D9:DV:=.agg [iN d.E8,iN d.level,lnk d.link,.list 1 (d.D5.map iN),iN m]
def Nq(i v:Nat)(S:E9):List (DV×F4):=[(.undef,.Q0 i v 5 S.l.length),(iN S.mx,.val),(iN S.cnt,.val),(iN S.J6,.val)]
def Ov(S:E9)(ms:List Nat):List DV:=List.zipWith Nd.D9 S.l ms
structure Ef(b i:Nat)(S:E9)(ms:List Nat)(v:Nat)(sg:List E5):Prop where
 box:H5 sg b=some (Nq i v S)
 Q0:V5 sg i v=some (5,Ov S ms)
 len:ms.length=S.l.length
 le:∀m∈ms,m<=S.J6
def Y5(b i:Nat)(S:E9)(sg:List E5):Prop:=∃ms v,Ef b i S ms v sg
structure Kp(b i:Nat)(sg sg':List E5):Prop where
 le:sg.length<=sg'.length
 eq:∀j,j<sg.length->j≠b->j≠i->sg'[j]?=sg[j]?
variable {i:Nat}
def Kp.refl{b:Nat}(sg:List E5):Kp b i sg sg:=⟨zeq _,λ_ _ _ _=>rfl⟩
def Kp.trans{b:Nat}{x y z:List E5}(h:Kp b i x y)(k:Kp b i y z):Kp b i x z :=⟨zGq h.le k.le,λj hj h1 h2=>(k.eq j (z5q hj h.le) h1 h2).trans (h.eq j hj h1 h2)⟩
variable {sg:List E5}
def bR{n:Nat}{x:Nat×List DV}(h:V5 sg i n=some x):i<sg.length:=by
 unfold V5 at h;split at h
 ·rename_i h';exact(z6q.1 h').1
 ·cases h
def WX{x:List (DV×F4)}(h:H5 sg i=some x):sg[i]?=some (.box x):=by unfold H5 at h;split at h<;>simp_all
def A0a{n:Nat}{x:Nat×List DV}(h:V5 sg i n=some x):sg[i]?=some (.Q0 n x.1 x.2):=by
 unfold V5 at h;split at h
 ·split at h
  ·rename_i e;simp only[D8]at h;subst h;subst e;assumption
  ·cases h
 ·cases h
def Bj(h:i<sg.length)(x:List (DV×F4)):H5 (sg.set i (.box x)) i=some x:=by simp[H5,h]
def ZR(h:i<sg.length)(n sz:Nat)(ds:List DV):V5 (sg.set i (.Q0 n sz ds)) i n=some (sz,ds):=by simp[V5,h]
def Cw{j:Nat}(h:i≠j)(o:E5):H5 (sg.set i o) j=H5 sg j:=by unfold H5;rw[z2q h]
def oP{j n:Nat}(h:i≠j)(o:E5):V5 (sg.set i o) j n=V5 sg j n:=by unfold V5;rw[z2q h]
variable {S:E9}{ms:List Nat}
def Ef.ne{b v:Nat}(h:Ef b i S ms v sg):i≠b:=by intro e;have h1:=WX h.box;have h2:=A0a h.Q0;rw[e,h1]at h2;cases h2
def Ef.mono{b v:Nat}{sg':List E5}(h:Ef b i S ms v sg)(h1:sg'[b]?=sg[b]?)(h2:sg'[i]?=sg[i]?):Ef b i S ms v sg' :=⟨by rw[Jo h1];exact h.box,by rw[oQ h2];exact h.Q0,h.len,h.le⟩
def Ef.app{b v:Nat}(h:Ef b i S ms v sg)(L:List E5):Ef b i S ms v (sg++L) :=h.mono (zaq (CZ h.box)) (zaq (bR h.Q0))
def Y5.app{b:Nat}(h:Y5 b i S sg)(L:List E5):Y5 b i S (sg++L):=by obtain⟨ms,v,h⟩:=h;exact⟨ms,v,h.app L⟩
def Kp.app{b:Nat}(sg L:List E5):Kp b i sg (sg++L):=⟨by simp,λj hj _ _=>zaq hj⟩
def Kp.set{b j:Nat}(sg:List E5)(o:E5)(h:j=b\/j=i):Kp b i sg (sg.set j o) :=⟨by simp,λk hk h1 h2=>z2q (by omega)⟩
section
variable {b i v:Nat}{S:E9}{ms:List Nat}{sg:List E5}
@[simp] theorem CV:Ar (Nq i v S) 0 5=some (i,v,S.l.length):=rfl
@[simp] theorem C0I:U8 (Nq i v S) 1=some (iN S.mx):=rfl
@[simp] theorem B7t:U8 (Nq i v S) 2=some (iN S.cnt):=rfl
@[simp] theorem A90:U8 (Nq i v S) 3=some (iN S.J6):=rfl
def A1N:iQ n=some (iN n):=We n
def Jh{n k:Nat}(h:k<n):j5 0 n (iN k)=some k:=by simp only[j5,iN];rw[C9 (by omega)];simp
def Ef.nd(h:Ef b i S ms v sg){n:Nat}{d:Nd}(hd:S.l[n]?=some d):∃m,ms[n]?=some m/\m<=S.J6/\(Ov S ms)[n]?=some (d.D9 m):=by
 have hn:=(z6q.1 hd).1;have hm:n<ms.length:=by rw[h.len];exact hn
 refine⟨ms[n],zfq hm,h.le _ (z7q hm),?_⟩;unfold Ov;rw[zyq,hd,zfq hm]
def Ef.lv(h:Ef b i S ms v sg):i<sg.length:=bR h.Q0
def Ef.lb(h:Ef b i S ms v sg):b<sg.length:=CZ h.box
@[simp] theorem nd0:A8 0 (d.D9 m)=iN d.E8:=rfl
@[simp] theorem nd1:A8 1 (d.D9 m)=iN d.level:=rfl
@[simp] theorem nd2:A8 2 (d.D9 m)=lnk d.link:=rfl
@[simp] theorem nd3:A8 3 (d.D9 m)=.list 1 (d.D5.map iN):=rfl
@[simp] theorem nd4:A8 4 (d.D9 m)=iN m:=rfl
@[simp] theorem P6:J2 (iN n)=true:=rfl
@[simp] theorem Bf:N8 (iN n)=true:=rfl
@[simp] theorem LP:j4 false (iN n)=true:=rfl
def B2Q(o:Option Nat):D7 .geq (lnk o) (iI 0)=some (.bool o.isSome):=by cases o<;>simp[lnk,iN]
variable (a:Nat)
def Og(c:Nat):D7 .eql (iN a) (iN c)=some (.bool (decide (a=c))):=by
 simp only[iN,AV]
 congr 2;exact decide_eq_decide.2 (by omega)
def Xu(c:Nat):D7 .neq (iN a) (iN c)=some (.bool (!decide (a=c))):=by
 simp only[iN,DX]
 congr 3;exact decide_eq_decide.2 (by omega)
def Af(c:Nat):D7 .lss (iN a) (iN c)=some (.bool (decide (a<c))):=by simp[iN]
def yH(c:Nat):D7 .gtr (iN a) (iN c)=some (.bool (decide (c<a))):=by simp[iN]
def B0K:D7 .geq (iN a) (iI 0)=some (.bool true):=by simp[iN]
def uV:D7 .lss (iN a) (iI 0)=some (.bool false):=by simp[iN]
variable {a:Nat}
theorem addN(h:a<2 ^ 62):D7 .add (iN a) (iI 1)=some (iN (a+1)):=by rw[iN,Br (by omega)];rfl
def B0d{c:Nat}(h:a+c<2 ^ 62):D7 .add (iN a) (iN c)=some (iN (a+c)):=by rw[iN,iN,RI (by omega) (by omega)];simp[iN]
def B1L(h:a<2 ^ 62):D7 .sub (iN (a+1)) (iI 1)=some (iN a):=by simp only[iN];rw[IX,Fg (by omega) (by omega)];congr 2;omega
def B1K{c:Nat}(h:c<=a)(h2:a<2 ^ 62):D7 .sub (iN a) (iN c)=some (iN (a-c)):=by simp only[iN];rw[IX,Fg (by omega) (by omega)];congr 2;omega
variable {l:List Nat}
def IE{j:Nat}(h:j<l.length):M4 1 (.list 1 (l.map iN)) (iN j)=some (iN l[j]):=R7 h
def Sk(l:List Nat):N9 (.list 1 (l.map iN))=some (iN l.length):=by simp[iN]
def yx(h:l.length<2 ^ 31):Di 1 (.list 1 (l.map iN)) (.list 1 [iN a])=some (.list 1 ((l++[a]).map iN)):=by rw[JP (by simp[Q8];omega)];simp
def A44(h:Ef b i S ms v sg)(n:Nat):C8.r Y2 [(.undef,.ptr b 0),(iN n,.val)] sg=some ([.bool (decide (n<S.l.length))],sg):=by refine(tu _ _ _).trans ?_;rw[wZ];simp only[B0K,I7,P5,F5,h.box,CV,A1N,Af]
variable {n:Nat}
def Qm(h:Ef b i S ms v sg){r:Nat}(hr:X6 S n r):C8.r Q5 [(.undef,.ptr b 0),(iN n,.val)] sg=some ([iN r],sg):=by
 refine(nJ _ _ _).trans ?_;rw[rC];simp only[A44 h,I7,z0q,U4,F3,hr.lt,K3,z4q,z1q,G8]
 induction hr with
 |here h1 h2=>obtain⟨m,-,-,e⟩:=h.nd h1;rw[Rf];simp only[h.box,I7,CV,Jh (X6.here h1 h2).lt,h.Q0,e,beq_self_eq_true,F8,nd2,B2Q,F3,h2,ztq,z1q,G8]
 |step h1 h2 h3 ih=>obtain⟨m,-,-,e⟩:=h.nd h1;rw[Rf];simp only[h.box,I7,CV,Jh (X6.step h1 h2 h3).lt,h.Q0,e,beq_self_eq_true,F8,nd2,B2Q,F3,h2,zuq,F5];exact ih
variable {t:NT}
def A9U(h:Ef b i S ms v sg)(hr:U2 S n t):C8.r Y4 [(.undef,.ptr b 0),(iN n,.val)] sg=some ([iN t.k],sg):=by refine(nE _ _ _).trans ?_;obtain⟨d,d1,-,d3,-⟩:=hr.nd;obtain⟨m,-,-,e⟩:=h.nd d1;rw[qy];simp only[A44 h,I7,z0q,U4,F3,hr.lt,K3,z4q,z1q,G8,h.box,CV,Qm h hr.root,MZ,F5,Jh hr.Fu,h.Q0,e,beq_self_eq_true,F8,nd0,d3]
theorem B7h(h:Ef b i S ms v sg)(ok:S.Ok)(hr:U2 S n t):
 C8.r DU [(.undef,.ptr b 0),(iN n,.val)] sg=some ([.list 1 ((S.I6 t.r).map iN)],sg++[.arr 1 []]):=by
 refine(nD _ _ _).trans ?_;obtain⟨d,d1,-,d3,-⟩:=hr.nd;obtain⟨m,-,-,e⟩:=h.nd d1;have hk:=ok.k2 d1;rw[qx,Cu d1];simp only[A44 h,I7,z0q,U4,F3,hr.lt,K3,z4q,z1q,G8,h.box,CV,Qm h hr.root,MZ,F5,Jh hr.Fu,h.Q0,e,beq_self_eq_true,F8,nd3,B0s,zjq,zmq];rw[show decide (d.D5.length<=Q8)=true from decide_eq_true (by unfold Q8;omega),F8];have:Ql (sg++[E5.arr 1 (d.D5.map iN)]) sg.length=some (1,d.D5.map iN):=by simp[Ql]
 simp only[B49,Bo,this,I7,beq_self_eq_true,F8,zHq,zjq,zeq,F5,zbq];rw[zIq _ _ (zeq _),zVq,zEq (by simp)];rfl
def B5n(h:Ef b i S ms v sg)(hr:U2 S n t)(hk:t.k=6):C8.r GJ [(.undef,.ptr b 0),(iN n,.val)] sg=some ([iN (S.X4 t.r)],sg):=by
 refine(kC _ _ _).trans ?_;obtain⟨d,d1,-,d3,-⟩:=hr.nd;obtain⟨m,-,-,e⟩:=h.nd d1;rw[mQ,nW d1];have:D7 .neq (iN t.k) (iI 6)=some (.bool false):=by rw[hk];rfl
 simp only[A9U h hr,I7,z0q,this,F3,z1q,G8,h.box,CV,Qm h hr.root,MZ,F5,Jh hr.Fu,h.Q0,e,beq_self_eq_true,F8,nd1]
end
end Go.Su

/-
 The store's functions: what is within a node.
-/
namespace Go.Su
set_option linter.defProp false
section
variable {b i v:Nat}{S:E9}{ms:List Nat}{sg:List E5}
def B6L{S:E9}{ms:List Nat}{r x:Nat}{d:Nd}(hd:S.l[r]?=some d):(Ov S ms).set r (d.D9 x)=Ov S (ms.set r x):=by
 unfold Ov;refine zKq λj=>?_;rw[zyq,zvq,zvq,zyq,zDq];by_cases h:r=j
 ·subst h;rw[hd,C9 rfl,C9 rfl];have:=(z6q.1 hd).1;by_cases h2:r<ms.length
  ·rw[C9 (by omega),C9 h2]
  ·rw[A7 (by omega),A7 h2]
 ·rw[A7 h,A7 h]
def A9E{S:E9}{ms:List Nat}{r m:Nat}{d:Nd}{f:Nd->Nd}(hd:S.l[r]?=some d)(hm:ms[r]?=some m):(Ov S ms).set r ((f d).D9 m)=Ov { S with l:=S.l.modify r f } ms:=by
 unfold Ov;refine zKq λj=>?_;rw[zyq,zvq,zyq,zDq,List.getElem?_modify];by_cases h:r=j
 ·subst h;have h1:=(z6q.1 hd).1;have h2:=(z6q.1 hm).1;rw[hd,hm,C9 rfl,C9 (by omega)];simp
 ·rw[A7 h];cases S.l[j]?<;>simp[h]
def Ef.wr{S':E9}{ms':List Nat}(h:Ef b i S ms v sg)(hl:S'.l.length=S.l.length)(h1:S'.mx=S.mx)(h2:S'.cnt=S.cnt)(h3:S'.J6=S.J6)(hm:ms'.length=ms.length)(J5:∀m∈ms',m<=S'.J6){ds:List DV}(hd:ds=Ov S' ms'):
 Ef b i S' ms' v (sg.set i (.Q0 v 5 ds)):=by
 refine⟨?_,?_,by rw[hm,h.len,hl],J5⟩
 ·rw[Cw h.ne,h.box];simp only[Nq,hl,h1,h2,h3]
 ·rw[hd];exact ZR h.lv ..
def Ef.tick(h:Ef b i S ms v sg):Ef b i S.tick ms v (sg.set b (.box ((Nq i v S).set 3 (iN (S.J6+1),.val)))) :=⟨Bj h.lb _,by rw[oP (Ne.symm h.ne)];exact h.Q0,h.len,λm hm=>by have:=h.le m hm;simp only[E9.tick];omega⟩
variable (d:Nd)
theorem B4N(m x:Nat):KQ 5 4 (d.D9 m) [(iN x,.val)]=some (d.D9 x):=rfl
theorem B2P(m x:Nat):KQ 5 1 (d.D9 m) [(iN x,.val)]=some ({ d with level:=x }.D9 m):=rfl
theorem B4K(m x:Nat):KQ 5 2 (d.D9 m) [(iN x,.val)]=some ({ d with link:=some x }.D9 m):=rfl
structure Met(S:E9)(ms o:List Nat):Prop where
 iff:∀(r m:Nat),ms[r]?=some m->(m=S.J6↔r∈o)
 nd:o.Nodup
 lt:∀r∈o,r<S.l.length
variable {o:List Nat}
def Met.len(h:Met S ms o):o.length<=S.l.length:=by have:=kX h.nd (m:=List.range S.l.length) λx hx=>List.mem_range.2 (h.lt x hx);simpa using this
def Met.add{r:Nat}(h:Met S ms o)(hr:r<S.l.length)(hn:r∉o):Met S (ms.set r S.J6) (o++[r]):=by
 refine⟨λj m hj=>?_,?_,λj hj=>?_⟩
 ·rw[zvq]at hj;rw[zzq,ziq];by_cases e:r=j
  ·subst e;rw[C9 rfl]at hj;split at hj
   ·cases hj;simp
   ·cases hj
  ·rw[A7 e]at hj;rw[h.iff j m hj];constructor
   ·exact Or.inl
   ·rintro(g | g)
    ·exact g
    ·exact absurd g.symm e
 ·rw[List.nodup_append];exact⟨h.nd,by simp,λa ha c hc=>by simp only[ziq]at hc;subst hc;intro e;subst e;exact hn ha⟩
 ·rw[zzq,ziq]at hj;rcases hj with hj | hj
  ·exact h.lt j hj
  ·omega
def B1U(b i:Nat)(S:E9)(v:Nat)(sg:List E5)(x:Option (List DV×List E5))(o:List Nat):Prop :=∃ms' sg',x=some ([.list 1 (o.map iN)],sg')/\Ef b i S ms' v sg'/\Met S ms' o/\Kp b i sg sg'
def B7n(ok:S.Ok)(t:NT):∀(n:Nat),U2 S n t->∀(o ms:List Nat)(sg:List E5),Ef b i S ms v sg->Met S ms o->
 B1U b i S v sg (C8.r KW [(.undef,.ptr b 0),(iN n,.val),(.list 1 (o.map iN),.own)] sg) (t.look o):=by
 induction t using NT.ind with
 |h r k ts ih=>
   intro n hu o ms sg h M;obtain⟨d,d1,d2,d3,d4,d5⟩:=hu.nd;simp only[NT.JD,NT.Ux,NT.S9]at d1 d3 d4 d5;obtain⟨m,m1,m2,e⟩:=h.nd d1;have hr:=hu.Fu;have Ru:=hu.root;simp only[NT.JD]at hr Ru;have ol:=M.len;have oc:=ok.lc;have omm:=ok.mm;have ocm:=ok.cm;rw[nL,rE];simp only[Qm h Ru,I7,z0q,h.box,CV,Jh hr,h.Q0,e,beq_self_eq_true,F8,A90,nd4,Og,F3,I4,NT.look]
   by_cases hm:m=S.J6
   ·rw[C9 hm,C9 ((M.iff r m m1).1 hm)];exact⟨ms,sg,rfl,h,M,Kp.refl _⟩
   ·have ho:r∉o:=λg=>hm ((M.iff r m m1).2 g);rw[A7 hm,A7 ho];have h1:Ef b i S (ms.set r S.J6) v (sg.set i (.Q0 v 5 ((Ov S ms).set r (d.D9 S.J6)))) :=
     h.wr rfl rfl rfl rfl (by simp) (λx hx=>by
      rcases List.mem_or_eq_of_mem_set hx with g | g
      ·exact h.le x g
      ·omega) (B6L d1)
    have M1:=M.add hr ho;obtain⟨m',-,-,e1⟩:=h1.nd d1;have hk:=ok.k2 d1;simp only[P6,F8,B4N,I7,yx (show o.length<2 ^ 31 by omega),h1.box,CV,Jh hr,h1.Q0,e1,beq_self_eq_true,nd3,Sk]
    have key:∀(q j:Nat)(o ms:List Nat)(sg:List E5),j+q=d.D5.length->Ef b i S ms v sg->Met S ms o->
     B1U b i S v sg (Hz C8 b (.list 1 (o.map iN)) (.list 1 (d.D5.map iN)) (iN d.D5.length) (iN j) sg) (NT.Kw (ts.drop j) o):=by
     intro q;induction q with
     |zero=>intro j o ms sg hj h M;rw[Rk,z9q (by omega)];simp only[Af,I7,F3,I4];rw[A7 (by omega),NT.Kw];exact⟨ms,sg,rfl,h,M,Kp.refl _⟩
     |succ q ihq=>
       intro j o ms sg hj h M;have O8:j<d.D5.length:=by omega
       have FQ:j<ts.length:=by omega
       obtain⟨ms',sg',a1,a2,a3,a4⟩:=ih ts[j] (z7q FQ) d.D5[j] (d5 j O8 FQ) o ms sg h M;obtain⟨ms2,sg2,b1,b2,b3,b4⟩:=ihq (j+1) _ ms' sg' (by omega) a2 a3;refine⟨ms2,sg2,?_,b2,?_,a4.trans b4⟩
       ·rw[Rk,z3q FQ];simp only[Af,I7,F3,I4,C9 O8,IE O8,Bf,F8,a1,z0q,addN (show j<2 ^ 62 by omega),NT.Kw]
        exact b1
       ·rw[z3q FQ,NT.Kw];exact b3
    obtain⟨ms2,sg2,b1,b2,b3,b4⟩:=key d.D5.length 0 _ _ _ (by omega) h1 M1;exact⟨ms2,sg2,b1,b2,b3,(Kp.set sg _ (.inr rfl)).trans b4⟩
def XT(b i:Nat)(sg:List E5)(x:Option (List DV×List E5))(ds:List DV)(S:E9):Prop:=∃sg',x=some (ds,sg')/\Y5 b i S sg'/\Kp b i sg sg'
def Ef.at(h:Ef b i S ms v sg):Y5 b i S sg:=⟨ms,v,h⟩
def oh(h:Y5 b i S sg)(ok:S.Ok)(hr:S.J6+1<2 ^ 62){n:Nat}{t:NT}(ht:U2 S n t):XT b i sg (C8.r EE [(.undef,.ptr b 0),(iN n,.val)] sg) [.list 1 ((S.roots n).map iN)] S.tick:=by
 obtain⟨ms,v,h⟩:=h;have M:Met S.tick ms []:=⟨λr m hm=>by have:=h.le m (List.mem_of_getElem? hm);simp only[E9.tick,zhq,iff_false];omega,yhq,by simp⟩
 obtain⟨ms',sg',a1,a2,a3,a4⟩:=B7n (b:=b) (i:=i) (v:=v) ok.tick t n ht.tick [] ms _ h.tick M;refine⟨sg',?_,a2.at,(Kp.set sg _ (.inl rfl)).trans a4⟩;refine(kF _ _ _).trans ?_;rw[mV];have c3:(Nq i v S)[3]?=some (iN S.J6,.val):=rfl;simp only[h.box,I7,A90,addN (show S.J6<2 ^ 62 by omega),P6,F8,c3]
 simp only[zqq]at a1;rw[a1];simp only[I7,z0q,E9.roots,ht.eq]
end
end Go.Su

/-
 The store's functions: variables, levels, links.
-/
namespace Go.Su
set_option linter.defProp false
section
variable {b i:Nat}{S:E9}{sg:List E5}
def B3x(l:List Nat)(hl:l.length<2 ^ 31)(n:Nat):C8.p Cb [.list 1 (l.map iN),iN n]=some (.bool (decide (n∈l))):=by
 have:=vK (l.map Int.ofNat) (by simp[Q8];omega) n;have e:O6 (l.map Int.ofNat)=.list 1 (l.map iN):=by simp only[O6,List.map_map];rfl
 rw[e]at this;rw[show iN n=.int .i64 (n:Int)from rfl,this];congr 2;refine decide_eq_decide.2 ⟨λh=>?_,λh=>zwq h⟩;obtain⟨m,hm,h2⟩:=List.mem_map.1 h;have:(m:Int)=n:=h2;have:m=n:=by omega
 rw[<- this];exact hm
def X_(h:Y5 b i S sg)(n:Nat):C8.r Y2 [(.undef,.ptr b 0),(iN n,.val)] sg=some ([.bool (decide (n<S.l.length))],sg):=by obtain⟨ms,v,h⟩:=h;exact A44 h n
variable {n:Nat}
def NY(h:Y5 b i S sg)(ok:S.Ok)(hn:n<S.l.length):C8.r Q5 [(.undef,.ptr b 0),(iN n,.val)] sg=some ([iN (S.root n)],sg):=by obtain⟨ms,v,h⟩:=h;exact Qm h (ok.root hn)
def Sq(h:Y5 b i S sg)(ok:S.Ok)(hn:n<S.l.length):C8.r Y4 [(.undef,.ptr b 0),(iN n,.val)] sg=some ([iN (S.F9 (S.root n))],sg):=by obtain⟨ms,v,h⟩:=h;obtain⟨d,-,-,d3,-,d5,-⟩:=ok.nd hn;rw[A9U h (ok.I8 hn),<- d5,d3]
def oW(h:Y5 b i S sg)(ok:S.Ok)(hn:n<S.l.length):C8.r DU [(.undef,.ptr b 0),(iN n,.val)] sg=some ([.list 1 ((S.I6 (S.root n)).map iN)],sg++[.arr 1 []]):=by obtain⟨ms,v,h⟩:=h;exact B7h h ok (ok.I8 hn)
def A3Q(h:Y5 b i S sg)(ok:S.Ok)(hn:n<S.l.length)(hk:S.F9 (S.root n)=6):C8.r GJ [(.undef,.ptr b 0),(iN n,.val)] sg=some ([iN (S.X4 (S.root n))],sg):=by obtain⟨ms,v,h⟩:=h;obtain⟨d,-,-,d3,-,d5,-⟩:=ok.nd hn;exact B5n h (ok.I8 hn) (by rw[<- d3,d5,hk])
def E9.Ok.len{S:E9}(ok:S.Ok):S.l.length<=65541:=by have:=ok.lc;have:=ok.cm;have:=ok.mm;omega
def E9.Ok.A2J{S:E9}(ok:S.Ok)(hn:n<S.l.length):(S.roots n).length<2 ^ 31:=by have:=E9.A3P ok hn;have:=ok.len;omega
def E9.B3G(S:E9)(ok:S.Ok)(hn:n<S.l.length):S.tick.root n=S.root n:=(ok.I8 hn).tick.GR
def A3R(h:Y5 b i S sg)(ok:S.Ok)(hr:S.J6+1<2 ^ 62){v:Nat}(hv:v<S.l.length)(hn:n<S.l.length):
 XT b i sg (C8.r Ij [(.undef,.ptr b 0),(iN v,.val),(iN n,.val)] sg) [.bool (decide (S.root v∈S.roots n))] S.tick:=by
 obtain⟨K4,e1,a1,k1⟩:=oh h ok hr (ok.I8 hn);refine⟨K4,?_,a1,k1⟩;refine(gy _ _ _ _).trans ?_;rw[jf];simp only[X_ h,I7,z0q,P5,hv,hn,K3,F5,e1,NY a1 ok.tick (show v<S.tick.l.length from hv),S.B3G ok hv,B3x _ (ok.A2J hn)]
def B3v(h:Y5 b i S sg)(ok:S.Ok)(hr:S.J6+1<2 ^ 62)(hn:n<S.l.length):
 XT b i sg (C8.r Mx [(.undef,.ptr b 0),(iN n,.val)] sg) [.bool (decide (4∉S.roots n))] S.tick:=by
 obtain⟨K4,e1,a1,k1⟩:=oh h ok hr (ok.I8 hn);refine⟨K4,?_,a1,k1⟩;refine(gu _ _ _).trans ?_;rw[je];have:=B3x (S.roots n) (ok.A2J hn) 4;rw[show iN 4=.int .i64 4 from rfl]at this;simp only[X_ h,I7,z0q,P5,hn,K3,F5,e1,this,U4]
 congr 4;by_cases g:4∈S.roots n<;>simp[g]
def A9V(h:Y5 b i S sg)(ok:S.Ok)(hr:S.J6+1<2 ^ 62)(hn:n<S.l.length):
 XT b i sg (C8.r KV [(.undef,.ptr b 0),(iN n,.val)] sg) [.list 1 ((S.vars n).map iN)] S.tick:=by
 obtain⟨K4,e1,a1,k1⟩:=oh h ok hr (ok.I8 hn);refine⟨K4,?_,a1,k1⟩;refine(nK _ _ _).trans ?_;rw[rD];simp only[X_ h,I7,z0q,U4,F3,hn,K3,z4q,z1q,G8,e1,Sk];obtain⟨ms,v,a1⟩:=a1;have hl:=ok.A2J hn;have key:∀(q j:Nat)(o:List Nat),j+q=(S.roots n).length->o.length<=j->El C8 b (.list 1 (o.map iN)) (.list 1 ((S.roots n).map iN)) (iN (S.roots n).length) (iN j) K4=some ([.list 1 ((o++((S.roots n).drop j).filter λr=>S.F9 r==6).map iN)],K4):=by
  intro q;induction q with
  |zero=>intro j o hj ho;rw[Rh,z9q (by omega)];simp only[Af,I7,F3,I4];rw[A7 (by omega),yeq,y3q]
  |succ q ih=>
    intro j o hj ho;have O8:j<(S.roots n).length:=by omega
    have hx:=ok.NL hn (z7q O8);obtain⟨d,hd⟩:∃d,S.tick.l[(S.roots n)[j]]?=some d:=⟨_,zfq hx⟩;obtain⟨m,-,-,e⟩:=a1.nd hd;rw[Rh,z3q O8,zZq];simp only[Af,I7,F3,I4,C9 O8,IE O8,Bf,F8,a1.box,CV,Jh (show(S.roots n)[j]<S.tick.l.length from hx),a1.Q0,e,beq_self_eq_true,nd0,show(DV.int .i64 6)=iN 6 from rfl,Og,P6,addN (show j<2 ^ 62 by omega)]
    have hd:S.l[(S.roots n)[j]]?=some d:=hd;rw[CB hd];by_cases h6:d.E8=6
    ·rw[C9 h6,yx (show o.length<2 ^ 31 by omega),h6];simp only[I7,beq_self_eq_true,F5];rw[ih (j+1) _ (by omega) (by simp;omega),zSq];rfl
    ·rw[A7 h6,ih (j+1) _ (by omega) (by omega)];simp[h6]
 have:=key (S.roots n).length 0 [] (by omega) (by simp);simp only[zqq,zrq,zbq]at this;exact this
def B8z(a c:Nat):Zx (iN a) (iN c)=some (iN (min a c)):=by
 simp only[Zx,iN,F5]
 congr 2;split<;>omega
def A7M(h:Y5 b i S sg)(ok:S.Ok)(hr:S.J6+1<2 ^ 62){A9:Nat}(hn:n<S.l.length):
 XT b i sg (C8.r Jv [(.undef,.ptr b 0),(iN n,.val),(iN A9,.val)] sg) [] (S.lower n A9):=by
 obtain⟨K4,e1,a1,k1⟩:=A9V h ok hr hn;obtain⟨ms,v,a1⟩:=a1;have hl:=ok.A2J hn;have hvl:(S.vars n).length<2 ^ 31:=y7q (zTq ..) hl;have key:∀(q j:Nat)(l:List Nd)(sg:List E5),j+q=(S.vars n).length->l.length=S.l.length->Ef b i { S.tick with l:=l } ms v sg->
  ∃sg',Gr C8 b (iN A9) (.list 1 ((S.vars n).map iN)) (iN (S.vars n).length) (iN j) sg=some ([],sg')/\Ef b i { S.tick with l:=a_ l ((S.vars n).drop j) A9 } ms v sg'/\Kp b i sg sg':=by
  intro q;induction q with
  |zero=>intro j l sg hj hll h;rw[Qx,z9q (by omega)];simp only[Af,I7,F3,I4];rw[A7 (by omega)];exact⟨sg,rfl,h,Kp.refl _⟩
  |succ q ih=>
    intro j l sg hj hll h;have O8:j<(S.vars n).length:=by omega
    have hx:(S.vars n)[j]<S.l.length:=ok.NL hn (yfq.1 (z7q O8)).1;obtain⟨d,hd⟩:∃d,l[(S.vars n)[j]]?=some d:=⟨_,zfq (by rw[hll];exact hx)⟩;obtain⟨m,hm,-,e⟩:=h.nd hd;have h':Ef b i { S.tick with l:=l.modify (S.vars n)[j] λd=>{ d with level:=min d.level A9 } } ms v (sg.set i (.Q0 v 5 ((Ov { S.tick with l:=l } ms).set (S.vars n)[j] ({ d with level:=min d.level A9 }.D9 m)))) :=h.wr (S':={ S.tick with l:=l.modify (S.vars n)[j] λd=>{ d with level:=min d.level A9 } }) (by simp) rfl rfl rfl rfl h.le (A9E (S:={ S.tick with l:=l }) (f:=λd=>{ d with level:=min d.level A9 }) hd hm)
    obtain⟨sg',b1,b2,b3⟩:=ih (j+1) _ _ (by omega) (by simp[hll]) h';refine⟨sg',?_,?_,(Kp.set sg _ (.inr rfl)).trans b3⟩
    ·rw[Qx];simp only[Af,I7,F3,I4,C9 O8,IE O8,Bf,F8,h.box,CV,Jh (show(S.vars n)[j]<l.length by omega),h.Q0,e,beq_self_eq_true,nd1,B8z,P6,addN (show j<2 ^ 62 by omega),B2P]
     exact b1
    ·rw[z3q O8];exact b2
 obtain⟨sg2,b1,b2,b3⟩:=key (S.vars n).length 0 S.l K4 (by omega) rfl a1;refine⟨sg2,?_,⟨ms,v,b2⟩,k1.trans b3⟩;refine(kE _ _ _ _).trans ?_;rw[mU];simp only[e1,I7,z0q,Sk];exact b1
theorem A7F(h:Y5 b i S sg)(ok:S.Ok)(hr:S.J6+1<2 ^ 62){A9:Nat}(hn:n<S.l.length):
 XT b i sg (C8.r Ju [(.undef,.ptr b 0),(iN n,.val),(iN A9,.val)] sg) [iN 0] (S.lower n A9):=by
 obtain⟨K4,e1,a1,k1⟩:=A7M (A9:=A9) h ok hr hn;refine⟨K4,?_,a1,k1⟩;refine(kD _ _ _ _).trans ?_;rw[mR];simp only[X_ h,I7,z0q,U4,P5,hn,K3,z4q,z1q,G8,uV,F3,e1]
 try rfl
theorem A2Q(h:Y5 b i S sg)(ok:S.Ok)(hr:S.J6+2<2 ^ 62){v:Nat}(hv:v<S.l.length)(hn:n<S.l.length):
 XT b i sg (C8.r Eg [(.undef,.ptr b 0),(iN v,.val),(iN n,.val)] sg) [iN (S.link v n).2] (S.link v n).1:=by
 obtain⟨ms,w,hm⟩:=id h;have hrv:=ok.Fu hv;have hrn:=ok.Fu hn;obtain⟨d,d1,d2,-,-,d5,d6⟩:=ok.nd hv;obtain⟨m,m1,-,e⟩:=hm.nd d1;have step:∀x,(Kc C8 b (iN v) (iN n) sg=x->C8.r Eg [(.undef,.ptr b 0),(iN v,.val),(iN n,.val)] sg=x):=λx g=>(nG b (iN v) (iN n) sg).trans g;have start:Kc C8 b (iN v) (iN n) sg=_:=qz _ _ _ _ _;simp only[NY h ok hv,NY h ok hn,I7,z0q,uV,P5,z1q,G8,hm.box,CV,Jh hrv,hm.Q0,e,beq_self_eq_true,F8,nd0,show(DV.int .i64 6)=iN 6 from rfl,Xu,Og,F3,d5]at start;unfold E9.link;by_cases h6:S.F9 (S.root v)=6
 ·by_cases heq:S.root v=S.root n
  ·rw[C9 (.inr heq)];refine⟨sg,step _ ?_,h,Kp.refl _⟩;rw[start];simp[h6,heq];rfl
  ·rw[A7 (by simp[h6,heq])];obtain⟨K4,e1,a1,k1⟩:=A3R h ok (by omega) hrv hrn;rw[ok.rr hv]at e1;have rrn:S.roots (S.root n)=S.roots n:=by have:S.I8 (S.root n)=S.I8 n:=(ok.I8 hn).self.eq;unfold E9.roots;rw[this]
   rw[rrn]at e1;simp only[h6,heq,K3,z4q,z1q,G8,R8,e1,I7,z0q,F3,I4]at start;by_cases hw:S.root v∈S.roots n
   ·rw[C9 hw];refine⟨K4,step _ ?_,a1,k1⟩;rw[start,C9 hw];rfl
   ·rw[A7 hw];rw[A7 hw]at start;obtain⟨ms1,w1,Rq⟩:=id a1;obtain⟨m1,m2,-,e2⟩:=Rq.nd (S:=S.tick) d1;have h2:Ef b i (S.tick.Ay (S.root v) (S.root n)) ms1 w1 (K4.set i (.Q0 w1 5 ((Ov S.tick ms1).set (S.root v) ({ d with link:=some (S.root n) }.D9 m1)))) :=Rq.wr (S':=S.tick.Ay (S.root v) (S.root n)) (by simp[E9.Ay]) rfl rfl rfl rfl Rq.le (A9E (S:=S.tick) (f:=λd=>{ d with link:=some (S.root n) }) d1 m2)
    have uj:=TQ ok hv hn h6 hw;obtain⟨d',g1⟩:∃d',(S.tick.Ay (S.root v) (S.root n)).l[S.root v]?=some d'/\d'.level=S.X4 (S.root v):=by refine⟨_,by rw[Er];simp only[E9.tick];rw[d1,zWq],?_⟩;simp only[F5];exact d6
    obtain⟨g1,g2⟩:=g1;obtain⟨m3,-,-,e3⟩:=h2.nd g1;obtain⟨bP,e4,a4,k4⟩:=A7M (A9:=S.X4 (S.root v)) h2.at uj (show S.J6+1+1<2 ^ 62 by omega) (show S.root n<(S.tick.Ay (S.root v) (S.root n)).l.length by simpa[E9.Ay,E9.tick]using hrn);refine⟨bP,step _ ?_,a4,k1.trans ((Kp.set K4 _ (.inr rfl)).trans k4)⟩;rw[start];have hl1:S.root v<S.tick.l.length:=hrv;have yM:S.root v<(S.tick.Ay (S.root v) (S.root n)).l.length:=by simpa[E9.Ay,E9.tick]using hrv
    simp only[Rq.box,I7,CV,Jh hl1,Rq.Q0,e2,beq_self_eq_true,F8,P6,B4K,h2.box,Jh yM,h2.Q0,e3,nd1,g2,e4]
    try rfl
 ·rw[C9 (.inl h6)];refine⟨sg,step _ ?_,h,Kp.refl _⟩;rw[start];simp[h6];rfl
end
end Go.Su

/-
 The store's functions: nodes are made, types are put.
-/
namespace Go.Su
set_option linter.defProp false
section
variable {b i:Nat}{S:E9}{sg:List E5}
def B6K{S:E9}{ms:List Nat}(h:ms.length=S.l.length):(Ov S ms).length=S.l.length:=by unfold Ov;rw[zDq,h,Nat.min_self]
def A1G(h:Y5 b i S sg)(hl:S.l.length<2 ^ 31)(hc:S.cnt<2 ^ 31)(k A9:Nat)(ks:List Nat):
 XT b i sg (C8.r BO [(.undef,.ptr b 0),(.agg [iN k,iN A9,iI 0,.list 1 (ks.map iN),iI 0],.val)] sg) [iN S.l.length] (S.add ⟨k,A9,none,ks⟩):=by
 obtain⟨ms,v,h⟩:=h;have hn:=B6K h.len
 let sg2:=(sg.set i (.Q0 (v+1) 5 (Ov S ms++[(⟨k,A9,none,ks⟩:Nd).D9 0])))
 let S':=S.add ⟨k,A9,none,ks⟩
 have qL:H5 sg2 b=some (Nq i v S):=by rw[Cw h.ne];exact h.box
 have lb2:b<sg2.length:=CZ qL
 let c1:List (DV×F4):=[(.undef,.Q0 i (v+1) 5 (S.l.length+1)),(iN S.mx,.val),(iN S.cnt,.val),(iN S.J6,.val)]
 have hb3:H5 (sg2.set b (.box c1)) b=some c1:=Bj lb2 c1;have hb4:H5 ((sg2.set b (.box c1)).set b (.box (Nq i (v+1) S'))) b=some (Nq i (v+1) S'):=Bj (by simpa using lb2) _;refine⟨(sg2.set b (.box c1)).set b (.box (Nq i (v+1) S')),?_,⟨ms++[0],v+1,⟨hb4,?_,?_,?_⟩⟩,?_⟩
 ·refine(rQ _ _ _).trans ?_;rw[tQ];have ag:I5 5 (DV.agg [iN k,iN A9,iI 0,.list 1 (ks.map iN),iI 0])=true:=rfl;have tk:(Ov S ms).take S.l.length=Ov S ms:=by rw[<- hn,ybq]
  have ap:Jy 5 (.list 5 (Ov S ms)) (.list 5 [(⟨k,A9,none,ks⟩:Nd).D9 0])=some (Ov S ms,[(⟨k,A9,none,ks⟩:Nd).D9 0]):=by simp only[Jy,and_self,true_and,zdq,z8q];rw[C9 ⟨by rw[hn];unfold Q8;omega,by omega⟩]
  have en:DV.agg [A8 0 (DV.agg [iN k,iN A9,iI 0,.list 1 (ks.map iN),iI 0]),A8 1 (DV.agg [iN k,iN A9,iI 0,.list 1 (ks.map iN),iI 0]),iI (-1),A8 3 (DV.agg [iN k,iN A9,iI 0,.list 1 (ks.map iN),iI 0]),A8 4 (DV.agg [iN k,iN A9,iI 0,.list 1 (ks.map iN),iI 0])]=(⟨k,A9,none,ks⟩:Nd).D9 0:=rfl;rw[en];have s0:(Nq i v S)[0]?=some (.undef,.Q0 i v 5 S.l.length):=rfl;have s2:c1[2]?=some (iN S.cnt,.val):=rfl;have w1:(Nq i v S).set 0 (.undef,.Q0 i (v+1) 5 (S.l.length+1))=c1:=rfl;have w2:c1.set 2 (iN (S.cnt+1),.val)=Nq i (v+1) S':=by simp[c1,Nq,S',E9.add]
  have d2:U8 c1 2=some (iN S.cnt):=rfl;have sl:S'.l.length=S.l.length+1:=by simp[S',E9.add]
  simp only[ag,F8,h.box,I7,CV,h.Q0,beq_self_eq_true,zmq,hn,zeq,K3,tk,ap,zdq,z8q,zHq];have B98:H5 (sg.set i (E5.Q0 (v+1) 5 (Ov S ms++[(⟨k,A9,none,ks⟩:Nd).D9 0]))) b=some (Nq i v S):=qL;simp only[B98,I7,s0,w1];have B99:H5 ((sg.set i (E5.Q0 (v+1) 5 (Ov S ms++[(⟨k,A9,none,ks⟩:Nd).D9 0]))).set b (.box c1)) b=some c1:=hb3;have C0a:H5 (((sg.set i (E5.Q0 (v+1) 5 (Ov S ms++[(⟨k,A9,none,ks⟩:Nd).D9 0]))).set b (.box c1)).set b (.box (Nq i (v+1) S'))) b=some (Nq i (v+1) S'):=hb4;simp only[B99,I7,d2,addN (show S.cnt<2 ^ 62 by omega),P6,F8,s2,w2,C0a,CV,A1N,sl,B1L (show S.l.length<2 ^ 62 by omega)]
  try rfl
 ·rw[oP (Ne.symm h.ne),oP (Ne.symm h.ne),ZR h.lv];congr 2;simp only[Ov,E9.add];rw[List.zipWith_append h.len.symm];rfl
 ·simp[E9.add,h.len]
 ·intro m hm;rw[zzq]at hm;rcases hm with hm | hm
  ·exact h.le m hm
  ·simp only[ziq]at hm;omega
 ·exact(Kp.set sg _ (.inr rfl)).trans ((Kp.set sg2 _ (.inl rfl)).trans (Kp.set _ _ (.inl rfl)))
def Y5.cnt(h:Y5 b i S sg):∃cs,H5 sg b=some cs/\U8 cs 1=some (iN S.mx)/\U8 cs 2=some (iN S.cnt):=by obtain⟨ms,v,h⟩:=h;exact⟨_,h.box,rfl,rfl⟩
theorem A7G(h:Y5 b i S sg)(ok:S.Ok)(A9:Nat):
 XT b i sg (C8.r IZ [(.undef,.ptr b 0),(iN A9,.val)] sg) [iN (S.var A9).2.1,iN (S.var A9).2.2] (S.var A9).1:=by
 obtain⟨cs,c0,c1,c2⟩:=h.cnt;have hl:=ok.len;have hc:=ok.cm;have hm:=ok.mm;obtain⟨K4,e1,a1,k1⟩:=A1G h (by omega) (by omega) 6 A9 [];have start:=(rP b (iN A9) sg).trans (tO _ _ _ _);simp only[uV,I7,F3,z1q,G8,c0,c1,c2,Og,I4,P6,F8]at start;unfold E9.var;by_cases e:S.cnt=S.mx
 ·rw[C9 e]at start ⊢;exact⟨sg,start,h,Kp.refl _⟩
 ·rw[A7 e]at start ⊢;refine⟨K4,?_,a1,k1⟩;rw[start];have Ie:C8.r BO [(.undef,.ptr b 0),(.agg [iI 6,iN A9,iI 0,.list 1 [],iI 0],.val)] sg=_:=e1;rw[Ie];rfl
def B2R(h:Y5 b i S sg)(k:DV)(ks:List Nat)(hs:∀x∈ks,x<S.l.length)(hk:ks.length<2 ^ 31):Df C8 b k (.list 1 (ks.map iN)) sg=DJ C8 b k (.list 1 (ks.map iN)) (.list 1 (ks.map iN)) (iN ks.length) (iN ks.length) sg:=by
 rw[jd,Sk,I7];have key:∀(q j:Nat),j+q=ks.length->DJ C8 b k (.list 1 (ks.map iN)) (.list 1 (ks.map iN)) (iN ks.length) (iN j) sg=DJ C8 b k (.list 1 (ks.map iN)) (.list 1 (ks.map iN)) (iN ks.length) (iN ks.length) sg:=by
  intro q;induction q with
  |zero=>intro j hj;rw[show j=ks.length by omega]
  |succ q ih=>
    intro j hj;have O8:j<ks.length:=by omega
    rw[Re];simp only[Af,I7,F3,I4,C9 O8,IE O8,Bf,F8,X_ h,z0q,U4,hs _ (z7q O8),K3,z4q,z1q,G8,addN (show j<2 ^ 62 by omega)]
    exact ih (j+1) (by omega)
 exact key ks.length 0 (by omega)
theorem A2R(h:Y5 b i S sg)(ok:S.Ok){k x y:Nat}(hk:k=7\/k=8\/k=9)(hx:x<S.l.length)(hy:k≠8->y<S.l.length):
 XT b i sg (C8.r Eh [(.undef,.ptr b 0),(iN k,.val),(iN x,.val),(iN y,.val)] sg) [iN (S.make k x y).2.1,iN (S.make k x y).2.2] (S.make k x y).1:=by
 obtain⟨cs,c0,c1,c2⟩:=h.cnt;have hl:=ok.len;have hc:=ok.cm;have hm:=ok.mm
 let ks:=if k=8 then[x]else[x,y]
 have Lc:∀z∈ks,z<S.l.length:=by
  intro z hz;simp only[ks]at hz;split at hz
  ·rw[ziq.1 hz];exact hx
  ·rename_i h8;simp only[znq,zhq,or_false]at hz;rcases hz with rfl | rfl
   ·exact hx
   ·exact hy h8
 have RA:ks.length<2 ^ 31:=by simp only[ks];split<;>simp
 obtain⟨K4,e1,a1,k1⟩:=A1G h (by omega) (by omega) k 0 ks;have st:C8.r Eh [(.undef,.ptr b 0),(iN k,.val),(iN x,.val),(iN y,.val)] sg=Df C8 b (iN k) (.list 1 (ks.map iN)) sg:=by refine((nH b (iN k) (iN x) (iN y) sg).trans (q_ _ _ _ _ _ _)).trans ?_;have h7:D7 .eql (iN k) (iI 7)=some (.bool (decide (k=7))):=Og k 7;have h8:D7 .eql (iN k) (iI 8)=some (.bool (decide (k=8))):=Og k 8;have h9:D7 .eql (iN k) (iI 9)=some (.bool (decide (k=9))):=Og k 9;have sl:Nj 1 (.list 1 [iN x,iN y]) none (some (iI 1))=some (.list 1 [iN x]):=rfl;simp only[P6,F8,h7,h8,h9,sl,I7,F3,I4,ks];rcases hk with rfl | rfl | rfl<;>rfl
 rw[B2R h _ _ Lc RA,Re]at st;have il:J2 (DV.list 1 (ks.map iN))=true:=rfl;simp only[Af,zkq,R8,I7,F3,z1q,G8,c0,c1,c2,Og,I4,P6,F8,il]at st;unfold E9.make;by_cases e:S.cnt=S.mx
 ·rw[C9 e]at st ⊢;exact⟨sg,st,h,Kp.refl _⟩
 ·rw[A7 e]at st ⊢;refine⟨K4,?_,a1,k1⟩;rw[st];have Ie:C8.r BO [(.undef,.ptr b 0),(.agg [iN k,iI 0,iI 0,.list 1 (ks.map iN),iI 0],.val)] sg=_:=e1;rw[Ie];rfl
mutual
def ZI:Ty->Nat->Nat
 |.mk _ _ ts,m=>if ts.length=0 then 0 else VA ts m 1
def VA:List Ty->Nat->Nat->Nat
 |[],_,n=>n
 |t::ts,m,n=>if m<n then n else VA ts m (n+ZI t (m-n))
end
variable (t:Ty)
theorem A6J(m:Nat):ZI t m=if t.D5.length=0 then 0 else VA t.D5 m 1:=by cases t;rw[ZI];rfl
def A6K:∀m,(GG t<=m->ZI t m=GG t)/\(m<GG t->m<ZI t m/\ZI t m<=GG t):=by
 induction t using Ty.ind with
 |h t ih=>
   intro m;rw[A6J,Pq];split
   ·exact⟨λ_=>rfl,λh=>by omega⟩
   ·have key:∀(ts:List Ty),(∀k∈ts,k∈t.D5)->∀n,(n+BJ ts<=m->VA ts m n=n+BJ ts)/\(m<n+BJ ts->m<VA ts m n/\VA ts m n<=n+BJ ts):=by
     intro ts;induction ts with
     |nil=>intro _ n;simp[BJ,VA]
     |cons k ts ihs=>
       intro hs n;obtain⟨i1,i2⟩:=ih k (hs k (zAq ..)) (m-n);have ii:=ihs (λw hw=>hs w (zsq _ hw)) (n+ZI k (m-n));rw[BJ,VA];by_cases qM:m<n
       ·rw[C9 qM];omega
       ·rw[A7 qM];by_cases g:GG k<=m-n
        ·rw[i1 g]at ii ⊢;omega
        ·have:=i2 (by omega);omega
    have:=key t.D5 (λk hk=>hk) 1;exact this
def B0X:GG t<=t.size:=by
 induction t using Ty.ind with
 |h t ih=>
   rw[Pq,Ty.size_eq];split
   ·omega
   ·have:∀ts:List Ty,(∀k∈ts,k∈t.D5)->BJ ts<=(ts.map Ty.size).sum:=by
     intro ts;induction ts with
     |nil=>intro _;simp[BJ]
     |cons k ts ihs=>intro hs;have:=ih k (hs k (zAq ..));have:=ihs λw hw=>hs w (zsq _ hw);rw[BJ,zJq,y8q];omega
    have:=this t.D5 λk hk=>hk;omega
def A2x(l:List Ty):N9 (.list 3 (l.map Ty.D9))=some (iN l.length):=by simp[iN]
def A6A{l:List Ty}{j:Nat}(h:j<l.length):M4 3 (.list 3 (l.map Ty.D9)) (iN j)=some l[j].D9:=R7 h
def B7o:t.size<2 ^ 40->t.D5.length<2 ^ 31->t.rc->∀m,m<2 ^ 31->C8.p Tf [t.D9,iN m]=some (iN (ZI t m)):=by
 induction t using Ty.ind with
 |h t ih=>
   intro hz hl hr m hm;rw[A2i,A39,A6J];simp only[Y9,F8,Ty.DN,A2x,I7,show(DV.int .i64 0)=iN 0 from rfl,show(DV.int .i64 1)=iN 1 from rfl,Og,F3,I4]
   split
   ·rfl
   ·have key:∀(q j n:Nat),j+q=t.D5.length->n+BJ (t.D5.drop j)<2 ^ 41->Oa C8 (iN m) (iN n) (.list 3 (t.D5.map Ty.D9)) (iN t.D5.length) (iN j)=some (iN (VA (t.D5.drop j) m n)):=by
     intro q;induction q with
     |zero=>intro j n hj hn;rw[aF,z9q (by omega)];simp only[Af,I7,F3,I4];rw[A7 (by omega),VA]
     |succ q ihq=>
       intro j n hj hn;have O8:j<t.D5.length:=by omega
       rw[z3q O8,BJ]at hn;rw[aF,z3q O8,VA];simp only[Af,I7,F3,I4,C9 O8,A6A O8,yH]
       split
       ·rfl
       ·rename_i qM;have hk:=z7q O8;have kz:=Ty.Cy hk;have kl:(t.D5[j]).D5.length<2 ^ 31:=by
         rcases(hr.kid hk).E8 with⟨e,-⟩ | ⟨-,-,-,e,-⟩
         ·rw[e];simp
         ·have:=Zr (t.D5[j]).E8.toNat;omega
        have mi:=A6K t.D5[j] (m-n);have:ZI t.D5[j] (m-n)<=GG t.D5[j]:=by
         by_cases g:GG t.D5[j]<=m-n
         ·exact Nat.le_of_eq (mi.1 g)
         ·exact(mi.2 (by omega)).2
        simp only[B1K (show n<=m by omega) (show m<2 ^ 62 by omega),I7,Ty.Bh,Ty.EC,Ty.DN,Ty.l6,Ty.ag]
        rw[ih _ hk (by omega) kl (hr.kid hk) (m-n) (by omega),I7,B0d (by omega),I7];simp only[addN (show j<2 ^ 62 by omega),I7]
        exact ihq (j+1) _ (by omega) (by omega)
    have iz:=B0X t;rw[Pq,A7 (by assumption)]at iz;have:=key t.D5.length 0 1 (by omega) (by rw[zbq];omega);rw[zbq]at this;exact this
theorem B86:t.rc->∀(S:E9)(sg:List E5),Y5 b i S sg->S.Ok->S.cnt+GG t<=S.mx->XT b i sg (C8.r Lf [(.undef,.ptr b 0),(t.D9,.val)] sg) [iN (Fx t S).2] (Fx t S).1:=by
 induction t using Ty.ind with
 |h t ih=>
   intro hr S sg h ok hc;have start:=(rR b t.D9 sg).trans (tT _ _ _ _);rw[Zf];rw[Pq]at hc;simp only[Y9,F8,Ty.Bh,Ty.DN,A2x,I7,show(DV.int .i64 0)=iN 0 from rfl,Og,F3,I4]at start;split
   ·rename_i hl;rw[C9 hl]at start;have:D7 .sub (iI t.E8) (iI 1)=some (iN (t.E8-1).toNat):=by
     rcases hr.E8 with⟨-,h1,h2,-⟩ | ⟨e,-⟩
     ·rw[IX,Fg (by omega) (by omega)];simp only[iN]
      congr 2;omega
     ·exact absurd (zNq.1 hl) e
    simp only[this,I7]at start;exact⟨sg,start,h,Kp.refl _⟩
   ·rename_i hl;rw[A7 hl]at start hc;have key:∀(q j:Nat)(o:List Nat)(S:E9)(sg:List E5),j+q=t.D5.length->o.length<=j->Y5 b i S sg->S.Ok->S.cnt+BJ (t.D5.drop j)<=S.mx->
     ∃sg',Dh C8 b (.list 1 (o.map iN)) (.list 3 (t.D5.map Ty.D9)) (iN t.D5.length) (iN j) t.D9 sg=Dh C8 b (.list 1 ((o++(Y6 (t.D5.drop j) S).2).map iN)) (.list 3 (t.D5.map Ty.D9)) (iN t.D5.length) (iN t.D5.length) t.D9 sg'/\Y5 b i (Y6 (t.D5.drop j) S).1 sg'/\Kp b i sg sg':=by
     intro q;induction q with
     |zero=>intro j o S sg hj ho h ok hc;rw[z9q (by omega),show j=t.D5.length by omega];exact⟨sg,by rw[Y6];simp,h,Kp.refl _⟩
     |succ q ihq=>
       intro j o S sg hj ho h ok hc;have O8:j<t.D5.length:=by omega
       have h2:t.D5.length<2 ^ 31:=by
        rcases hr.E8 with⟨e,-⟩ | ⟨-,-,-,e,-⟩
        ·rw[e];simp
        ·have:=Zr t.E8.toNat;omega
       rw[z3q O8,BJ]at hc;rw[z3q O8,Y6];have hk:=z7q O8;obtain⟨K4,e1,a1,k1⟩:=ih _ hk (hr.kid hk) S sg h ok (by omega);obtain⟨p,-⟩:=Qj _ (hr.kid hk) S ok (by omega);have pc:=p.cnt;have pm:=p.U3.mx;obtain⟨sg2,e2,a2,k2⟩:=ihq (j+1) (o++[(Fx t.D5[j] S).2]) _ K4 (by omega) (by simp;omega) a1 p.ok (by omega);refine⟨sg2,?_,a2,k1.trans k2⟩;rw[TC];simp only[Af,I7,F3,I4,C9 O8,A6A O8,Ty.Bh,Ty.EC,Ty.DN,Ty.l6,Ty.ag,e1,z0q,P6,F8,yx (show o.length<2 ^ 31 by omega),addN (show j<2 ^ 62 by omega)]
       rw[e2];simp
    obtain⟨K4,e1,a1,k1⟩:=key t.D5.length 0 [] S sg (by omega) (by simp) h ok (by rw[zbq];omega);rw[zbq]at e1 a1;obtain⟨p,-⟩:A4R S (Y6 t.D5 S).1 (BJ t.D5)/\True:=by
     have:∀(ts:List Ty),(∀k∈ts,k∈t.D5)->∀S:E9,S.Ok->S.cnt+BJ ts<=S.mx->A4R S (Y6 ts S).1 (BJ ts):=by
      intro ts;induction ts with
      |nil=>intro _ S ok _;exact⟨ok,Ct.refl S,rfl,rfl⟩
      |cons k ts ihs=>intro hs S ok hc;rw[BJ]at hc;obtain⟨p,-⟩:=Qj k (hr.kid (hs k (zAq ..))) S ok (by omega);have pc:=p.cnt;have pm:=p.U3.mx;have c:=ihs (λw hw=>hs w (zsq _ hw)) _ p.ok (by omega);rw[Y6,BJ];exact⟨c.ok,p.U3.trans c.U3,by have:=c.cnt;simp only;omega,c.J6.trans p.J6⟩
     exact⟨this t.D5 (λk hk=>hk) S ok (by omega),trivial⟩
    have pl:=p.ok.len;have pc:=p.ok.cm;have pm:=p.ok.mm;obtain⟨sg2,e2,a2,k2⟩:=A1G a1 (by omega) (by omega) t.E8.toNat 0 (Y6 t.D5 S).2;refine⟨sg2,?_,a2,k1.trans k2⟩;refine start.trans ?_;have Ie:Dh C8 b (.list 1 []) (.list 3 (t.D5.map Ty.D9)) (iN t.D5.length) (iN 0) t.D9 sg=_:=e1;rw[Ie,TC];have hkd:(DV.int .i64 t.E8)=iN t.E8.toNat:=by rcases hr.E8 with⟨-,h1,h2,-⟩ | ⟨-,h1,h2,-⟩<;>simp only[iN]<;>congr 1<;>omega
    simp only[Af,zkq,R8,I7,F3,z1q,G8,Ty.Bh,hkd,P6,F8,zrq];have e2':C8.r BO [(.undef,.ptr b 0),(.agg [iN t.E8.toNat,iI 0,iI 0,.list 1 ((Y6 t.D5 S).2.map iN),iI 0],.val)] K4=_:=e2;rw[e2'];rfl
theorem B82(h:Y5 b i S sg)(ok:S.Ok){t:Ty}(ht:t.rc)(hz:t.size<2 ^ 40)(TM:t.thin=true):
 XT b i sg (C8.r RG [(.undef,.ptr b 0),(t.D9,.val)] sg) [iN (S.put t).2.1,iN (S.put t).2.2] (S.put t).1:=by
 obtain⟨cs,c0,c1,c2⟩:=h.cnt;have hc:=ok.cm;have hm:=ok.mm;have hl:t.D5.length<2 ^ 31:=by
  rcases ht.E8 with⟨e,-⟩ | ⟨-,-,-,e,-⟩
  ·rw[e];simp
  ·have:=Zr t.E8.toNat;omega
 have start:=(rO b t.D9 sg).trans (tN _ _ _ _);simp only[Y9,F8,Ty.Bh,Ty.EC,Ty.DN,Ty.l6,Ty.ag,vM t TM,ht.1,F5,I7,DX,K3,z4q,P5,z1q,G8,qW t TM,ht.2,U4,F3,c0,c1,c2,B1K hc (show S.mx<2 ^ 62 by omega),B7o t hz hl ht (S.mx-S.cnt) (by omega),yH,I4]at start;have mi:=A6K t (S.mx-S.cnt);unfold E9.put;by_cases g:GG t>S.mx-S.cnt
 ·rw[C9 (mi.2 g).1]at start;rw[C9 g];exact⟨sg,start,h,Kp.refl _⟩
 ·rw[A7 (by rw[mi.1 (by omega)];omega)]at start;rw[A7 g];obtain⟨K4,e1,a1,k1⟩:=B86 t ht S sg h ok (by omega);refine⟨K4,?_,a1,k1⟩;rw[start,e1];rfl
end
end Go.Su

/-
 The store's functions: nodes are read; a new store.
-/
namespace Go.Su
set_option linter.defProp false
section
variable {b i v:Nat}{S:E9}{ms:List Nat}{sg:List E5}{k:Nat}
def Ef.fF(h:Ef b i S ms v sg)(h1:k≠b)(h2:k≠i)(o:E5):Ef b i S ms v (sg.set k o) :=h.mono (z2q h1) (z2q h2)
def EZ{sg:List E5}(h:k<sg.length)(es:List (DV×DV)):R9 (sg.set k (.map false es)) k=some (false,es):=by simp[R9,h]
def LQ{sg:List E5}{j:Nat}(h:k≠j)(o:E5):R9 (sg.set k o) j=R9 sg j:=by unfold R9;rw[z2q h]
variable (es:List (DV×DV))
def B06(a c:Nat)(x:DV):Y0 (Bz es (iN a) x) (iN c)=if a=c then some x else Y0 es (iN c):=by
 have:=uW es (a:Int) (c:Int) x;rw[show iN a=.int .i64 (a:Int)from rfl,show iN c=.int .i64 (c:Int)from rfl,this];by_cases h:a=c
 ·rw[C9 h,C9 (by omega)]
 ·rw[A7 h,A7 (by omega)]
def NB(f:Nat->Option DV):Prop:=∀r:Nat,Y0 es (iN r)=none\/Y0 es (iN r)=f r
theorem NB.nil(f:Nat->Option DV):NB [] f:=λr=>.inl rfl
def NB.set{es:List (DV×DV)}{f:Nat->Option DV}(h:NB es f){r:Nat}{x:DV}(hx:f r=some x):NB (Bz es (iN r) x) f:=λc=>by
 rw[B06];by_cases e:r=c
 ·subst e;rw[C9 rfl];exact .inr hx.symm
 ·rw[A7 e];exact h c
def rdc(b m k1 k2:Nat):List (DV×F4):=[(.undef,.ptr b 0),(iN m,.val),(.undef,.map k1),(.undef,.map k2)]
structure dC(b i:Nat)(S:E9)(m p k1 k2:Nat)(sg:List E5)(e1 e2:List (DV×DV)):Prop where
 at_:∃ms v,Ef b i S ms v sg
 box:H5 sg p=some (rdc b m k1 k2)
 m1:R9 sg k1=some (false,e1)
 m2:R9 sg k2=some (false,e2)
def dC.ne{m p k1 k2:Nat}{e1 e2:List (DV×DV)}(h:dC b i S m p k1 k2 sg e1 e2):k1≠b/\k1≠i/\k1≠p/\k2≠b/\k2≠i/\k2≠p/\k1<sg.length/\k2<sg.length:=by
 obtain⟨ms,v,a⟩:=h.at_;have x1:=WX a.box;have x2:=A0a a.Q0;have x3:=WX h.box;have x4:sg[k1]?=some (.map false e1):=by have:=h.m1;unfold R9 at this;split at this<;>simp_all
 have x5:sg[k2]?=some (.map false e2):=by have:=h.m2;unfold R9 at this;split at this<;>simp_all
 refine⟨?_,?_,?_,?_,?_,?_,(z6q.1 x4).1,(z6q.1 x5).1⟩<;>intro e<;>subst e<;>simp_all
def dC.set1{m p k1 k2:Nat}{e1 e2:List (DV×DV)}(h:dC b i S m p k1 k2 sg e1 e2)(hk:k1≠k2)(es:List (DV×DV)):dC b i S m p k1 k2 (sg.set k1 (.map false es)) es e2:=by obtain⟨a1,a2,a3,a4,a5,a6,a7,a8⟩:=h.ne;obtain⟨ms,v,a⟩:=h.at_;exact⟨⟨ms,v,a.fF a1 a2 _⟩,by rw[Cw a3];exact h.box,EZ a7 es,by rw[LQ hk];exact h.m2⟩
def dC.set2{m p k1 k2:Nat}{e1 e2:List (DV×DV)}(h:dC b i S m p k1 k2 sg e1 e2)(hk:k1≠k2)(es:List (DV×DV)):dC b i S m p k1 k2 (sg.set k2 (.map false es)) e1 es:=by obtain⟨a1,a2,a3,a4,a5,a6,a7,a8⟩:=h.ne;obtain⟨ms,v,a⟩:=h.at_;exact⟨⟨ms,v,a.fF a4 a5 _⟩,by rw[Cw a6];exact h.box,by rw[LQ (Ne.symm hk)];exact h.m1,EZ a8 es⟩
def U2.B53{S:E9}{n:Nat}{t:NT}(h:U2 S n t):S.I8 t.r=t:=h.self.eq
def A7x{m:Nat}:∀(ts:List NT)(k:Nat),k<=m+1->NT.HY m ts k<=m+1
 |[],k,h=>by rw[NT.HY];exact h
 |t::ts,k,h=>by rw[NT.HY];exact A7x ts _ (y9q ..)
def B5m(m:Nat)(t:NT):t.BN m<=m+1:=by cases t;rw[NT.BN];exact A7x _ _ (by omega)
def B7s(ok:S.Ok){m p k1 k2:Nat}(hm:m<2 ^ 31)(hk:k1≠k2)(t:NT):∀(n:Nat),U2 S n t->∀(sg:List E5)(e1 e2:List (DV×DV)),dC b i S m p k1 k2 sg e1 e2->NB e1 (λr=>some (iN ((S.I8 r).BN m)))->
 ∃es,C8.r Il [(.undef,.ptr p 0),(iN n,.val)] sg=some ([iN (t.BN m)],sg.set k1 (.map false es))/\NB es (λr=>some (iN ((S.I8 r).BN m))):=by
 induction t using NT.ind with
 |h r k ts ih=>
   intro n hu sg e1 e2 h T;obtain⟨d,d1,d2,d3,d4,d5⟩:=hu.nd;simp only[NT.JD,NT.Ux,NT.S9]at d1 d3 d4 d5;obtain⟨ms,v,a⟩:=h.at_;obtain⟨q1,q2,q3,-,-,-,q7,-⟩:=h.ne;obtain⟨mk,-,-,e⟩:=a.nd d1;have hr:=hu.Fu;have Ru:=hu.root;have hs:=hu.B53;simp only[NT.JD]at hr Ru hs;have cp:X9 (rdc b m k1 k2) 0=some b:=rfl;have cm:Bq (rdc b m k1 k2) 2=some k1:=rfl;have cd:U8 (rdc b m k1 k2) 1=some (iN m):=rfl;have RA:=ok.k2 d1;rw[h_,jh];simp only[h.box,I7,cp,Qm a Ru,z0q,cm,LP,zmq,F8,h.m1,beq_self_eq_true,F3,a.box,CV,Jh hr,a.Q0,e,nd3,Sk];rcases T r with g | g
   ·rw[g];simp only[ztq,z1q,G8];have key:∀(q j c:Nat)(sg:List E5)(e1 e2:List (DV×DV)),j+q=ts.length->c<=m+1->dC b i S m p k1 k2 sg e1 e2->NB e1 (λr=>some (iN ((S.I8 r).BN m)))->NT.HY m (ts.drop j) c=(NT.mk r k ts).BN m->
     ∃es,GD C8 p (iN r) (iN c) (.list 1 (d.D5.map iN)) (iN d.D5.length) (iN j) sg=some ([iN ((NT.mk r k ts).BN m)],sg.set k1 (.map false es))/\NB es (λr=>some (iN ((S.I8 r).BN m))):=by
     intro q;induction q with
     |zero=>intro j c sg e1 e2 hj hc h T he;rw[z9q (by omega),NT.HY]at he;refine⟨Bz e1 (iN r) (iN c),?_,T.set (by rw[hs,he])⟩;rw[PW];simp only[Af,I7,F3,I4];rw[A7 (by omega)];simp only[h.box,I7,cm,LP,zmq,F8,h.m1,beq_self_eq_true,he]
     |succ q ihq=>
       intro j c sg e1 e2 hj hc h T he;have FQ:j<ts.length:=by omega
       have O8:j<d.D5.length:=by omega
       rw[z3q FQ,NT.HY]at he;obtain⟨es,x1,x2⟩:=ih ts[j] (z7q FQ) d.D5[j] (d5 j O8 FQ) sg e1 e2 h T;have h2:=h.set1 hk es;obtain⟨es2,y1,y2⟩:=ihq (j+1) (min (c+ts[j].BN m) (m+1)) _ es e2 (by omega) (y9q ..) h2 x2 he;refine⟨es2,?_,y2⟩;rw[zxq]at y1;rw[PW];have sm:=B5m m ts[j];have hp:(sg.set k1 (E5.map false es))[p]?=sg[p]?:=z2q q3;have oe:∀{β : Type}(y:Option β),MZ ((sg.set k1 (E5.map false es))[p]?=sg[p]?) y=y:=λy=>by unfold MZ;rw[C9 hp]
       simp only[Af,I7,F3,I4,C9 O8,IE O8,Bf,F8,x1,z0q,B0d (show c+ts[j].BN m<2 ^ 62 by omega),h2.box,cd,oe,addN (show m<2 ^ 62 by omega),B8z,addN (show j<2 ^ 62 by omega)]
       exact y1
    obtain⟨es,x1,x2⟩:=key ts.length 0 1 sg e1 e2 (by omega) (by omega) h T (by rw[zbq,NT.BN]);exact⟨es,x1,x2⟩
   ·rw[g];simp only[zuq,F5,zUq,hs];refine⟨e1,?_,T⟩;have Rq:=h.m1;have:sg.set k1 (.map false e1)=sg:=by
     have x4:sg[k1]?=some (.map false e1):=by unfold R9 at Rq;split at Rq<;>simp_all
     refine zKq λj=>?_;rw[zvq];split
     ·rename_i e;subst e;rw[x4];try simp[q7]
     ·rfl
    rw[this]
theorem A98:zTy.D9=.agg (Ig []):=by rw[Ty.O4];rfl
def B88(ok:S.Ok){m p k1 k2:Nat}(hk:k1≠k2)(t:NT):∀(n:Nat),U2 S n t->∀(sg:List E5)(e1 e2:List (DV×DV)),dC b i S m p k1 k2 sg e1 e2->NB e2 (λr=>some (S.I8 r).ty.D9)->
 ∃es,C8.r GK [(.undef,.ptr p 0),(iN n,.val)] sg=some ([t.ty.D9],sg.set k2 (.map false es))/\NB es (λr=>some (S.I8 r).ty.D9):=by
 induction t using NT.ind with
 |h r k ts ih=>
   intro n hu sg e1 e2 h T;obtain⟨d,d1,d2,d3,d4,d5⟩:=hu.nd;simp only[NT.JD,NT.Ux,NT.S9]at d1 d3 d4 d5;obtain⟨ms,v,a⟩:=h.at_;obtain⟨-,-,-,q1,q2,q3,-,q7⟩:=h.ne;obtain⟨mk,-,-,e⟩:=a.nd d1;have hr:=hu.Fu;have Ru:=hu.root;have hs:=hu.B53;simp only[NT.JD]at hr Ru hs;have cp:X9 (rdc b m k1 k2) 0=some b:=rfl;have cm:Bq (rdc b m k1 k2) 3=some k2:=rfl;have RA:=ok.k2 d1;rw[kG,mW];simp only[h.box,I7,cp,Qm a Ru,z0q,cm,LP,zmq,F8,h.m2,beq_self_eq_true,F3,a.box,CV,Jh hr,a.Q0,e,nd0,P6,show(DV.int .i64 6)=iN 6 from rfl,Og,I4]
   rcases T r with g | g
   ·rw[g];have ia:I5 3 (DV.agg (Ig []))=true:=rfl;simp only[ztq,z1q,G8,yiq,ia,F8];have key:∀(q j:Nat)(o:List Ty)(sg:List E5)(e1 e2:List (DV×DV)),j+q=ts.length->o=(ts.take j).map NT.ty->dC b i S m p k1 k2 sg e1 e2->NB e2 (λr=>some (S.I8 r).ty.D9)->∀nn:Nat,nn=(if k=6 then r else 0)->
     ∃es,EI C8 p (iN r) (.list 1 (d.D5.map iN)) (iN d.D5.length) (iN j) (iN k) (iN nn) (.list 3 (o.map Ty.D9)) sg=some ([(NT.mk r k ts).ty.D9],sg.set k2 (.map false es))/\NB es (λr=>some (S.I8 r).ty.D9):=by
     intro q;induction q with
     |zero=>
       intro j o sg e1 e2 hj ho h T nn hn;have he:DV.agg [iN k,iN nn,.list 3 (o.map Ty.D9)]=(NT.mk r k ts).ty.D9:=by
        rw[NT.ty,NT.QG,Ty.O4,ho,zEq (by omega)];simp only[Ty.Gb,Ty.Sl,Ty.S9,iN,hn]
        split<;>rfl
       refine⟨Bz e2 (iN r) (NT.mk r k ts).ty.D9,?_,T.set (by rw[hs])⟩;rw[Qy];simp only[Af,I7,F3,I4];rw[A7 (by omega)];simp only[h.box,I7,cm,LP,zmq,F8,h.m2,beq_self_eq_true,he]
     |succ q ihq=>
       intro j o sg e1 e2 hj ho h T nn hn;have FQ:j<ts.length:=by omega
       have O8:j<d.D5.length:=by omega
       obtain⟨es,x1,x2⟩:=ih ts[j] (z7q FQ) d.D5[j] (d5 j O8 FQ) sg e1 e2 h T;have h2:=h.set2 hk es;obtain⟨es2,y1,y2⟩:=ihq (j+1) (o++[ts[j].ty]) _ e1 es (by omega) (by rw[ho,zOq FQ,y4q];rfl) h2 x2 nn hn;refine⟨es2,?_,y2⟩;rw[zxq]at y1;rw[Qy];have ap:Di 3 (.list 3 (o.map Ty.D9)) (.list 3 [ts[j].ty.D9])=some (.list 3 ((o++[ts[j].ty]).map Ty.D9)):=by rw[JP (by rw[ho];simp[Q8];omega)];simp
       simp only[Af,I7,F3,I4,C9 O8,IE O8,Bf,F8,x1,z0q,Y9,ap,addN (show j<2 ^ 62 by omega)]
       exact y1
    have eight:∀nn:Nat,H_ C8 p (iN r) (iN k) (iN nn) sg=EI C8 p (iN r) (.list 1 (d.D5.map iN)) (iN d.D5.length) (iN 0) (iN k) (iN nn) (.list 3 []) sg:=by
     intro nn;rw[gQ];simp only[h.box,I7,cp,a.box,CV,Jh hr,a.Q0,e,beq_self_eq_true,F8,nd3,Sk]
     try rfl
    by_cases h6:d.E8=6
    ·rw[C9 h6,d3,eight r];exact key ts.length 0 [] sg e1 e2 (by omega) rfl h T r (by rw[C9 (by omega)])
    ·rw[A7 h6];have:=key ts.length 0 [] sg e1 e2 (by omega) rfl h T 0 (by rw[A7 (by omega)]);rw[d3];exact⟨this.choose,(eight 0).trans this.choose_spec.1,this.choose_spec.2⟩
   ·rw[g];simp only[zuq,F5,zUq,hs,Y9,F8,Ty.Bh,Ty.EC,Ty.DN,Ty.l6,Ty.ag];refine⟨e2,?_,T⟩;have Rq:=h.m2;have:sg.set k2 (.map false e2)=sg:=by
     have x4:sg[k2]?=some (.map false e2):=by unfold R9 at Rq;split at Rq<;>simp_all
     refine zKq λj=>?_;rw[zvq];split
     ·rename_i e;subst e;rw[x4];try simp[q7]
     ·rfl
    rw[this]
theorem B7i(h:Y5 b i S sg)(ok:S.Ok){n:Nat}(hn:n<S.l.length):XT b i sg (C8.r Ha [(.undef,.ptr b 0),(iN n,.val)] sg) [(S.read n).2.1.D9,iN (S.read n).2.2] (S.read n).1:=by
 obtain⟨cs,c0,c1,c2⟩:=h.cnt;have hc:=ok.cm;have hm:=ok.mm;obtain⟨ms,v,a⟩:=id h
 let k:=sg.length
 let K4:=sg++[.map false [],.map false [],.box (rdc b (S.mx-S.cnt) k (k+1))]
 have R1:dC b i S (S.mx-S.cnt) (k+2) k (k+1) K4 [] []:=by refine⟨⟨ms,v,a.app _⟩,?_,?_,?_⟩<;>simp[K4,H5,R9,k,zlq]
 have hk:k≠k+1:=by omega
 obtain⟨es,x1,x2⟩:=B7s ok (show S.mx-S.cnt<2 ^ 31 by omega) hk (S.I8 n) n (ok.I8 hn) K4 [] [] R1 (NB.nil _);have R2:=R1.set1 hk es;have start:=(nI b (iN n) sg).trans (rA _ _ _ _);have s1:((sg++[E5.map false []])++[E5.map false []])++[E5.box [(.undef,(.ptr b 0)),(iN (S.mx-S.cnt),.val),(.undef,(F4.map sg.length)),(.undef,(F4.map (sg++[E5.map false []]).length))]]=K4:=by simp[K4,rdc,k]
 have s2:((sg++[E5.map false []])++[E5.map false []]).length=k+2:=by simp[k]
 have cd:U8 (rdc b (S.mx-S.cnt) k (k+1)) 1=some (iN (S.mx-S.cnt)):=rfl;simp only[X_ h,I7,z0q,U4,hn,K3,z4q,F3,z1q,G8,c0,c1,c2,B1K hc (show S.mx<2 ^ 62 by omega),P6,F8,s1,s2,x1,R2.box,cd,yH,I4]at start;have K1:Kp b i sg K4:=Kp.app sg _;have K2:Kp b i sg (K4.set k (.map false es)):=⟨by simp[K4],λj hj h1 h2=>by rw[z2q (by omega)];exact K1.eq j hj h1 h2⟩
 unfold E9.read;by_cases g:(S.I8 n).BN (S.mx-S.cnt)>S.mx-S.cnt
 ·rw[C9 g]at start ⊢;exact⟨_,by rw[start,<- A98];rfl,by obtain⟨ms,v,a⟩:=R2.at_;exact⟨ms,v,a⟩,K2⟩
 ·rw[A7 g]at start ⊢;obtain⟨ms2,v2,a2⟩:=R2.at_
  let S':E9:={ S with cnt:=S.cnt+(S.I8 n).BN (S.mx-S.cnt) }
  have ok':S'.Ok:=⟨λn hn=>by obtain⟨t,ht⟩:=ok.wf n hn;exact⟨t,ht.like (show V6 S S' from V6.refl S)⟩,ok.base,by have:=ok.lc;simp only[S'];omega,by simp only[S'];omega,ok.mm,ok.ki⟩
  let sg2:=(K4.set k (.map false es)).set b (.box (Nq i v2 S'))
  have a3:Ef b i S' ms2 v2 sg2:=⟨Bj a2.lb _,by rw[oP (Ne.symm a2.ne)];exact a2.Q0,a2.len,a2.le⟩;obtain⟨q1,q2,q3,q4,q5,q6,-,-⟩:=R2.ne;have pb:k+2≠b:=by have:=a.lb;omega
  have R3:dC b i S' (S.mx-S.cnt) (k+2) k (k+1) sg2 es []:=⟨⟨ms2,v2,a3⟩,by rw[Cw (Ne.symm pb)];exact R2.box,by rw[LQ (Ne.symm q1)];exact R2.m1,by rw[LQ (Ne.symm q4)];exact R2.m2⟩;obtain⟨es2,y1,y2⟩:=B88 ok' hk (S.I8 n) n ((ok.I8 hn).like (show V6 S S' from V6.refl S)) sg2 es [] R3 (NB.nil _);have R4:=R3.set2 hk es2;have w1:(Nq i v2 S).set 2 (iN (S.cnt+(S.I8 n).BN (S.mx-S.cnt)),.val)=Nq i v2 S':=rfl;have w2:(Nq i v2 S)[2]?=some (iN S.cnt,.val):=rfl;refine⟨_,?_,by obtain⟨ms,v,a⟩:=R4.at_;exact⟨ms,v,a⟩,?_⟩;rotate_left
  ·refine⟨by simp[sg2,K4],λj hj h1 h2=>?_⟩;rw[z2q (by omega),z2q (Ne.symm h1)];exact K2.eq j hj h1 h2
  ·rw[start];simp only[a2.box,I7,B7t,B0d (show S.cnt+(S.I8 n).BN (S.mx-S.cnt)<2 ^ 62 by omega),P6,F8,w2]
   have y1':C8.r GK [(.undef,.ptr (k+2) 0),(iN n,.val)] ((K4.set k (.map false es)).set b (.box ((Nq i v2 S).set 2 (iN (S.cnt+(S.I8 n).BN (S.mx-S.cnt)),.val))))=_:=y1;rw[y1'];simp only[I7,z0q,Y9,F8,Ty.Bh,Ty.EC,Ty.DN,Ty.l6,Ty.ag]
   try rfl
end
def VM(k mx:Nat):List E5:=[.box [(.undef,.Q0 1 (k+1) 5 k),(iN mx,.val),(iN 0,.val),(iN 0,.val)],.Q0 (k+1) 5 ((List.range k).map λj=>(⟨j+1,0,none,[]⟩:Nd).D9 0)]
theorem ny(mx:Nat):∀k,k=1\/k=2\/k=3\/k=4->GX C8 0 (.list 1 [iN 1,iN 2,iN 3,iN 4,iN 5]) (iN 5) (iN k) (VM k mx)=GX C8 0 (.list 1 [iN 1,iN 2,iN 3,iN 4,iN 5]) (iN 5) (iN (k+1)) (VM (k+1) mx):=by rintro k (rfl | rfl | rfl | rfl)<;>rw[UW]<;>rfl
theorem B81(L:Int):C8.r fu [(iI L,.val)] []=some ([.int .u64 0],VM 5 (min (max L 0) 65536).toNat):=by
 refine(A4y _ _).trans ?_;rw[A5O];have h1:zC (iI L) (iI 0)=some (iI (max L 0)):=by
  simp only[zC,F5]
  congr 2;split<;>omega
 have h2:Zx (iI (max L 0)) (iI 65536)=some (iN (min (max L 0) 65536).toNat):=by
  simp only[Zx,F5,iN]
  congr 2;split<;>omega
 simp only[h1,h2,I7,P6,F8];generalize (min (max L 0) 65536).toNat=mx;have e0:GX C8 ([]:List E5).length (.list 1 [iI 1,iI 2,iI 3,iI 4,iI 5]) (iI 5) (iI 0) ([]++[E5.box [((.list 5 []),.full),(iN mx,.val),((iI 0),.val),((iI 0),.val)]])=GX C8 0 (.list 1 [iN 1,iN 2,iN 3,iN 4,iN 5]) (iN 5) (iN 1) (VM 1 mx):=by rw[UW];rfl
 rw[e0,ny mx 1 (by simp),ny mx 2 (by simp),ny mx 3 (by simp),ny mx 4 (by simp),UW];rfl
def B89(mx:Nat):Y5 0 1 (EQ mx) (VM 5 mx):=⟨[0,0,0,0,0],6,rfl,rfl,rfl,by simp[EQ]⟩
def A7E{b i:Nat}{S:E9}{sg:List E5}(h:Y5 b i S sg):C8.r OE [(.undef,.ptr b 0)] sg=some ([iN S.cnt],sg):=by refine(j_ _ _).trans ?_;obtain⟨cs,c0,c1,c2⟩:=h.cnt;rw[mP];simp only[c0,c2,I7]
end Go.Su

/-
 The store's functions: copies.
-/
namespace Go.Su
set_option linter.defProp false
section
variable {b i v:Nat}{S:E9}{ms:List Nat}{sg:List E5}
def xm(b kt kh km:Nat):List (DV×F4):=[(.undef,.ptr b 0),(.undef,.map kt),(.undef,.map kh),(.undef,.map km)]
variable (es:List (DV×DV))(K:List (Nat×Nat))
def Ic:Prop:=∀r:Nat,Y0 es (iN r)=(FC K r).map iN
theorem Ic.nil:Ic [] []:=λr=>rfl
variable {es:List (DV×DV)}{K:List (Nat×Nat)}
def Ic.set(h:Ic es K){r t:Nat}(hr:r∉K.map (·.1)):Ic (Bz es (iN r) (iN t)) (K++[(r,t)]):=λc=>by
 rw[B06,B2x hr];split
 ·rfl
 ·exact h c
def QT(S0:E9)(ks:List Nat)(es:List (DV×DV)):Prop:=∀r:Nat,Y0 es (iN r)=none\/∃t,U2 S0 r t/\Y0 es (iN r)=some (iN (if t.has ks then 1 else 2))
variable {S0:E9}
def QT.set{ks:List Nat}(h:QT S0 ks es){r:Nat}{t:NT}(hu:U2 S0 r t):QT S0 ks (Bz es (iN r) (iN (if t.has ks then 1 else 2))):=λc=>by
 rw[B06];split
 ·rename_i e;subst e;exact .inr ⟨t,hu,rfl⟩
 ·exact h c
structure RP(b i:Nat)(S:E9)(p kt kh km:Nat)(sg:List E5)(et eh em:List (DV×DV)):Prop where
 at_:Y5 b i S sg
 box:H5 sg p=some (xm b kt kh km)
 mt:R9 sg kt=some (false,et)
 mh:R9 sg kh=some (false,eh)
 mm:R9 sg km=some (false,em)
def bQ{sg:List E5}{k:Nat}(h:R9 sg k=some (false,es)):sg[k]?=some (.map false es):=by unfold R9 at h;split at h<;>simp_all
structure Apart(b i p kt kh km n:Nat):Prop where
 a:kt≠kh/\kt≠km/\kh≠km
 t:kt≠b/\kt≠i/\kt≠p
 h:kh≠b/\kh≠i/\kh≠p
 m:km≠b/\km≠i/\km≠p
 pp:p≠b/\p≠i
 l:kt<n/\kh<n/\km<n/\p<n
variable {p kt kh km:Nat}{et eh em:List (DV×DV)}
def RP.B1w(h:RP b i S p kt kh km sg et eh em)(A:Apart b i p kt kh km sg.length)(es:List (DV×DV)):RP b i S p kt kh km (sg.set kh (.map false es)) et es em:=by obtain⟨ms,v,a⟩:=h.at_;exact⟨⟨ms,v,a.fF A.h.1 A.h.2.1 _⟩,by rw[Cw A.h.2.2];exact h.box,by rw[LQ (Ne.symm A.a.1)];exact h.mt,EZ A.l.2.1 es,by rw[LQ A.a.2.2];exact h.mm⟩
def RP.C0C(h:RP b i S p kt kh km sg et eh em)(A:Apart b i p kt kh km sg.length)(es:List (DV×DV)):RP b i S p kt kh km (sg.set km (.map false es)) et eh es:=by obtain⟨ms,v,a⟩:=h.at_;exact⟨⟨ms,v,a.fF A.m.1 A.m.2.1 _⟩,by rw[Cw A.m.2.2];exact h.box,by rw[LQ (Ne.symm A.a.2.1)];exact h.mt,by rw[LQ (Ne.symm A.a.2.2)];exact h.mh,EZ A.l.2.2.1 es⟩
def Apart.len{n m:Nat}(A:Apart b i p kt kh km n)(h:n<=m):Apart b i p kt kh km m:=⟨A.a,A.t,A.h,A.m,A.pp,by have:=A.l;omega⟩
def RP.kp{S':E9}{sg':List E5}(h:RP b i S p kt kh km sg et eh em)(A:Apart b i p kt kh km sg.length)(k:Kp b i sg sg')(a:Y5 b i S' sg'):RP b i S' p kt kh km sg' et eh em:=by
 refine⟨a,?_,?_,?_,?_⟩
 ·rw[Jo (k.eq p A.l.2.2.2 A.pp.1 A.pp.2)];exact h.box
 all_goals unfold R9
 ·rw[k.eq kt A.l.1 A.t.1 A.t.2.1,bQ h.mt]
 ·rw[k.eq kh A.l.2.1 A.h.1 A.h.2.1,bQ h.mh]
 ·rw[k.eq km A.l.2.2.1 A.m.1 A.m.2.1,bQ h.mm]
theorem NM{sg:List E5}{k:Nat}(h:R9 sg k=some (false,es)):sg.set k (.map false es)=sg:=by
 have x4:=bQ h;refine zKq λj=>?_;rw[zvq];split
 ·rename_i e;subst e;rw[x4];simp[(z6q.1 x4).1]
 ·rfl
theorem A7I(hS:V6 S0 S)(k2:∀(n:Nat)(d:Nd),S.l[n]?=some d->d.D5.length<=2)(t:NT):∀(sg:List E5)(eh:List (DV×DV)),U2 S0 t.r t->RP b i S p kt kh km sg et eh em->Apart b i p kt kh km sg.length->Ic et K->QT S0 (K.map (·.1)) eh->
 ∃es,C8.r Ei [(.undef,.ptr p 0),(iN t.r,.val)] sg=some ([.bool (t.has (K.map (·.1)))],sg.set kh (.map false es))/\QT S0 (K.map (·.1)) es:=by
 induction t using NT.ind with
 |h r k ts ih=>
   intro sg eh yO h A hK T;have hu:=yO.like hS;obtain⟨d,d1,d2,d3,d4,d5⟩:=hu.nd;obtain⟨d',d1',-,-,d4',d5'⟩:=yO.nd;simp only[NT.JD,NT.Ux,NT.S9]at d1 d3 d4 d5 hu yO d1' d4' d5';obtain⟨ms,v,a⟩:=h.at_;obtain⟨mk,-,-,e⟩:=a.nd d1;have hr:=hu.lt;have RA:=k2 _ _ d1;have cp:X9 (xm b kt kh km) 0=some b:=rfl;have c1:Bq (xm b kt kh km) 1=some kt:=rfl;have c2:Bq (xm b kt kh km) 2=some kh:=rfl;rw[cB,gP];simp only[NT.JD,h.box,I7,c2,c1,LP,zmq,F8,h.mh,h.mt,beq_self_eq_true];have h1:(DV.int .i64 1)=iN 1:=rfl;have h2:(DV.int .i64 2)=iN 2:=rfl;have h0:(DV.int .i64 0)=iN 0:=rfl;rcases T r with g | ⟨t,ht,g⟩
   ·rw[g];simp only[yiq,h0,yH,I7,F3,zkq,R8,z1q,G8,hK r];have key:∀(q j x:Nat)(sg:List E5)(eh:List (DV×DV)),j+q=ts.length->RP b i S p kt kh km sg et eh em->Apart b i p kt kh km sg.length->QT S0 (K.map (·.1)) eh->(x=1\/x=2)->(decide (x=1)||NT.Uo (K.map (·.1)) (ts.drop j))=(NT.mk r k ts).has (K.map (·.1))->
     ∃es,CJ C8 p (iN r) (iN x) (.list 1 (d.D5.map iN)) (iN d.D5.length) (iN j) sg=some ([.bool ((NT.mk r k ts).has (K.map (·.1)))],sg.set kh (.map false es))/\QT S0 (K.map (·.1)) es:=by
     intro q;induction q with
     |zero=>
       intro j x sg eh hj h A T hx he;rw[z9q (by omega),NT.Uo,Bool.or_false]at he;rw[Ol];simp only[Af,I7,F3,I4];rw[A7 (by omega)];have hxx:x=if (NT.mk r k ts).has (K.map (·.1))then 1 else 2:=by rw[<- he];rcases hx with rfl | rfl<;>rfl
       refine⟨Bz eh (iN r) (iN x),?_,by rw[hxx];exact T.set yO⟩;simp only[h.box,I7,c2,LP,zmq,F8,h.mh,beq_self_eq_true,h1,Og,he]
     |succ q ihq=>
       intro j x sg eh hj h A T hx he;have FQ:j<ts.length:=by omega
       have O8:j<d.D5.length:=by omega
       have hj3:j<d'.D5.length:=by omega
       rw[z3q FQ,NT.Uo]at he;have hk:=d5 j O8 FQ;obtain⟨es,x1,x2⟩:=ih ts[j] (z7q FQ) sg eh (d5' j hj3 FQ).self h A hK T;have Qz:=h.B1w A es;have A2:=A.len (m:=(sg.set kh (.map false es)).length) (by simp);obtain⟨ms,v,a⟩:=h.at_;have rt:=Qm a hk.root;rw[Ol];simp only[Af,I7,F3,I4,C9 O8,IE O8,Bf,F8,h.box,cp,rt,z0q,x1,addN (show j<2 ^ 62 by omega)]
       by_cases hb:ts[j].has (K.map (·.1))=true
       ·rw[C9 hb];simp only[h1];obtain⟨es2,y1,y2⟩:=ihq (j+1) 1 _ es (by omega) Qz A2 x2 (.inl rfl) (by rw[<- he,hb];simp);rw[zxq]at y1;exact⟨es2,y1,y2⟩
       ·rw[A7 hb];obtain⟨es2,y1,y2⟩:=ihq (j+1) x _ es (by omega) Qz A2 x2 hx (by rw[<- he];simp[hb]);rw[zxq]at y1;exact⟨es2,y1,y2⟩
    have eight:∀x,GA C8 p (iN r) (iN x) sg=CJ C8 p (iN r) (iN x) (.list 1 (d.D5.map iN)) (iN d.D5.length) (iN 0) sg:=by
     intro x;rw[aD];simp only[h.box,I7,cp,a.box,CV,Jh hr,a.Q0,e,beq_self_eq_true,F8,nd3,Sk]
     try rfl
    cases hf:FC K r with
    |none=>have:=Kj.1 hf;simp only[y2q,ztq,z1q,G8,h2,eight];exact key ts.length 0 2 sg eh (by omega) h A T (.inr rfl) (by rw[zbq,NT.has];simp[this])
    |some t=>have:r∈K.map (·.1):=zwq (f:=(·.1)) (PY hf);simp only[zWq,zuq,F5,h1,eight];exact key ts.length 0 1 sg eh (by omega) h A T (.inl rfl) (by rw[zbq,NT.has];simp[this])
   ·rw[g];have:=ht.uniq yO;subst this;have hp:0<(if (NT.mk r k ts).has (K.map (·.1))=true then 1 else 2):=by split<;>omega
    simp only[zUq,h0,h1,yH,Og,I7,F3,hp,K3,F5];refine⟨eh,?_,T⟩;rw[NM h.mh];congr 3;cases(NT.mk r k ts).has (K.map (·.1))<;>rfl
def B90(b i p kt kh km:Nat)(S0:E9)(K:List (Nat×Nat))(et:List (DV×DV))(sg:List E5)(x:Option (List DV×List E5))(ds:List DV)(q:E9×List (Nat×Nat)):Prop :=∃sg' eh em,x=some (ds,sg')/\RP b i q.1 p kt kh km sg' et eh em/\Ic em q.2/\QT S0 (K.map (·.1)) eh/\sg.length<=sg'.length/\∀j,j<sg.length->j≠b->j≠i->j≠kh->j≠km->sg'[j]?=sg[j]?
def B7l{n0:Nat}(ok0:S0.Ok)(hK:∀e∈K,e.2<S0.l.length)(hn:S0.need K n0<=S0.mx-S0.cnt){N:List Nat}(hN:N=(S0.roots n0).filter λr=>S0.F9 r != 6&&(S0.I8 r).has (K.map (·.1)))(het:Ic et K)(t:NT):
 ∀n,U2 S0 n t->(∀x∈t.all,x∈S0.roots n0)->∀(S:E9)(M:List (Nat×Nat))(sg:List E5)(eh em:List (DV×DV)),CI S0 N S M->RP b i S p kt kh km sg et eh em->Apart b i p kt kh km sg.length->Ic em M->QT S0 (K.map (·.1)) eh->
 B90 b i p kt kh km S0 K et sg (C8.r Ik [(.undef,.ptr p 0),(iN n,.val)] sg) [iN (t.copy K (S,M)).1] (t.copy K (S,M)).2:=by
 induction t using NT.ind with
 |h r k ts ih=>
   intro n yO hx S M sg eh em C h A hM T;have hS:=C.U3.like;have hu:=yO.like hS;obtain⟨d,d1,d2,d3,d4,d5⟩:=hu.nd;obtain⟨d',d1',-,-,d4',d5'⟩:=yO.nd;simp only[NT.JD,NT.Ux,NT.S9]at d1 d3 d4 d5 d1' d4' d5';obtain⟨ms,v,a⟩:=h.at_;obtain⟨mk,-,-,e⟩:=a.nd d1;have hr:=hu.Fu;have Ru:=hu.root;simp only[NT.JD]at hr Ru;have RA:=C.ok.k2 d1;have cp:X9 (xm b kt kh km) 0=some b:=rfl;have c1:Bq (xm b kt kh km) 1=some kt:=rfl;have c3:Bq (xm b kt kh km) 3=some km:=rfl;have start:=(g_ p (iN n) sg).trans (jg _ _ _ _);simp only[h.box,I7,cp,Qm a Ru,z0q,c1,LP,zmq,F8,h.mt,beq_self_eq_true,het r,F3]at start;rw[NT.copy];cases hf:FC K r with
   |some t=>simp only[hf,zWq,zuq,F5,zUq]at start;exact⟨sg,eh,em,start,h,hM,T,zeq _,λ_ _ _ _ _ _=>rfl⟩
   |none=>
     obtain⟨es,x1,x2⟩:=A7I hS (λn d h=>C.ok.k2 h) (.mk r k ts) sg eh yO.self h A het T;have h2:=h.B1w A es;have A2:=A.len (m:=(sg.set kh (.map false es)).length) (by simp);obtain⟨ms2,v2,a2⟩:=h2.at_;obtain⟨mk2,-,-,e2⟩:=a2.nd d1;rw[NT.JD]at x1;simp only[hf,y2q,ztq,z1q,G8,x1,I7,z0q,U4,F3,h2.box,c3,h2.mm,beq_self_eq_true,F8,LP,zmq,hM r]at start;simp only;have fr:∀j,j<sg.length->j≠b->j≠i->j≠kh->j≠km->(sg.set kh (.map false es))[j]?=sg[j]?:=λj _ _ _ h3 _=>z2q (Ne.symm h3);by_cases hh:(NT.mk r k ts).has (K.map (·.1))=false
     ·rw[C9 hh];rw[hh]at start;simp only[zcq,F5]at start;exact⟨_,es,em,start,h2,hM,x2,by simp,fr⟩
     ·rw[A7 hh];have hh':(NT.mk r k ts).has (K.map (·.1))=true:=by simpa using hh
      rw[hh']at start;simp only[z4q,z1q,G8]at start;cases hm:FC M r with
      |some m=>simp only[hm,zWq,zuq,F5,zUq]at start;exact⟨_,es,em,start,h2,hM,x2,by simp,fr⟩
      |none=>
        simp only[hm,y2q,ztq,z1q,G8,cp,I7,a2.box,CV,Jh hr,a2.Q0,e2,beq_self_eq_true,F8,nd3,Sk]at start;have key:∀(q j:Nat)(o:List Nat)(S:E9)(M:List (Nat×Nat))(sg:List E5)(eh em:List (DV×DV)),j+q=ts.length->o.length<=j->CI S0 N S M->RP b i S p kt kh km sg et eh em->Apart b i p kt kh km sg.length->Ic em M->QT S0 (K.map (·.1)) eh->
         CI S0 N (NT.U9 K (ts.drop j) (S,M)).2.1 (NT.U9 K (ts.drop j) (S,M)).2.2/\(∀x∈(NT.U9 K (ts.drop j) (S,M)).2.2.map (·.1),x∈M.map (·.1)\/x∈NT.UM ts) /\
         ∃sg' eh' em',CG C8 p (iN r) (.list 1 (o.map iN)) (.list 1 (d.D5.map iN)) (iN d.D5.length) (iN j) sg=CG C8 p (iN r) (.list 1 ((o++(NT.U9 K (ts.drop j) (S,M)).1).map iN)) (.list 1 (d.D5.map iN)) (iN d.D5.length) (iN d.D5.length) sg'/\RP b i (NT.U9 K (ts.drop j) (S,M)).2.1 p kt kh km sg' et eh' em'/\Ic em' (NT.U9 K (ts.drop j) (S,M)).2.2/\QT S0 (K.map (·.1)) eh'/\sg.length<=sg'.length/\∀j,j<sg.length->j≠b->j≠i->j≠kh->j≠km->sg'[j]?=sg[j]?:=by
         intro q;induction q with
         |zero=>intro j o S M sg eh em hj ho C h A hM T;rw[z9q (by omega),NT.U9,show j=d.D5.length by omega];exact⟨C,λx hx=>.inl hx,sg,eh,em,by simp,h,hM,T,zeq _,λ_ _ _ _ _ _=>rfl⟩
         |succ q ihq=>
           intro j o S M sg eh em hj ho C h A hM T;have FQ:j<ts.length:=by omega
           have O8:j<d.D5.length:=by omega
           have hj3:j<d'.D5.length:=by omega
           have mem:=z7q FQ;have dk:d.D5=d'.D5:=by obtain⟨d'',g1,-,-,g2⟩:=hS _ _ d1';rw[d1]at g1;cases g1;exact g2
           have CR:U2 S0 d.D5[j] ts[j]:=by have:=d5' j hj3 FQ;simpa only[dk]using this
           have FI:∀x∈ts[j].all,x∈S0.roots n0:=λx FI=>hx x (NT.BZ.2 (.inr ⟨_,mem,FI⟩));obtain⟨K4,eh1,em1,y1,y2,y3,y4,y5,y6⟩:=ih ts[j] mem d.D5[j] CR FI S M sg eh em C h A hM T;obtain⟨C1,C2,C3⟩:=jC ok0 hK hn hN ts[j] d.D5[j] CR FI S M C;obtain⟨z0,zz,sg2,eh2,em2,z1,z2,z3,z4,z5,z6⟩:=ihq (j+1) (o++[(ts[j].copy K (S,M)).1]) _ _ K4 eh1 em1 (by omega) (by simp;omega) C1 y2 (A.len y5) y3 y4;rw[z3q FQ,NT.U9];refine⟨z0,λx hx=>?_,sg2,eh2,em2,?_,z2,z3,z4,zGq y5 z5,λj' h1 h2 h3 h4 h5=>(z6 j' (by omega) h2 h3 h4 h5).trans (y6 j' h1 h2 h3 h4 h5)⟩
           ·rcases zz x hx with g | g
            ·rcases C3 x g with g | g
             ·exact .inl g
             ·exact .inr (Pt.2 ⟨_,mem,g⟩)
            ·exact .inr g
           ·rw[Oj];simp only[Af,I7,F3,I4,C9 O8,IE O8,Bf,F8,y1,z0q,P6,yx (show o.length<2 ^ 31 by omega),addN (show j<2 ^ 62 by omega)]
            rw[z1];simp
        obtain⟨C1,C2,K4,eh1,em1,z1,z2,z3,z4,z5,z6⟩:=key ts.length 0 [] S M _ es em (by omega) (by simp) C h2 A2 hM x2;rw[zbq]at C1 C2 z1 z2 z3;have A3:=A2.len z5;obtain⟨ms3,v3,a3⟩:=z2.at_;obtain⟨d3',g1,g2,g3,g4⟩:=C1.U3.like _ _ d1';obtain⟨mk3,-,-,e3⟩:=a3.nd g1;have hr3:=(z6q.1 g1).1;have pl:=C1.ok.len;have pc:=C1.ok.cm;have pm:=C1.ok.mm;obtain⟨sg2,f1,f2,f3⟩:=A1G a3.at (by omega) (by omega) k 0 (NT.U9 K ts (S,M)).1;have z2':=z2.kp A3 f3 f2;have A4:=A3.len f3.le;have rM:r∉(NT.U9 K ts (S,M)).2.2.map (·.1):=by
         intro RB;rcases C2 r RB with g | g
         ·exact absurd g (Kj.1 hm)
         ·obtain⟨u,u1,u2⟩:=Pt.1 g;exact yO.fresh u1 u2
        have af:d3'.E8=k:=by rw[g2];obtain⟨d'',g1',g2',-,-⟩:=hS _ _ d1';rw[d1]at g1';cases g1';rw[<- g2'];exact d3
        refine⟨_,eh1,_,start.trans ?_,z2'.C0C A4 _,z3.set rM,z4,?_,?_⟩
        ·have z1':CG C8 p (iN r) (.list 1 []) (.list 1 (d.D5.map iN)) (iN d.D5.length) (iI 0) (sg.set kh (.map false es))=_:=z1;rw[z1',Oj];have f1':C8.r BO [(.undef,.ptr b 0),(.agg [iN k,iI 0,iI 0,.list 1 ((NT.U9 K ts (S,M)).1.map iN),iI 0],.val)] K4=_:=f1;simp only[Af,zkq,R8,I7,F3,z1q,G8,z2.box,cp,a3.box,CV,Jh hr3,a3.Q0,e3,beq_self_eq_true,F8,nd0,af,P6,zrq,f1',z0q,z2'.box,c3,LP,zmq,z2'.mm]
        ·have:=f3.le;simp only[zLq]at z5 ⊢;omega
        ·intro j h1 h2 h3 h4 h5;have l1:j<K4.length:=by simp only[zLq]at z5;omega
         rw[z2q (Ne.symm h5),f3.eq j l1 h2 h3,z6 j (by simpa using h1) h2 h3 h4 h5];exact fr j h1 h2 h3 h4 h5
end
end Go.Su

/-
 The store's functions: Copy whole.
-/
namespace Go.Su
set_option linter.defProp false
section
variable {b i v:Nat}{S:E9}{ms:List Nat}{sg:List E5}{p kt kh km:Nat}{et eh em:List (DV×DV)}
def RP.B8W(h:RP b i S p kt kh km sg et eh em)(A:Apart b i p kt kh km sg.length)(es:List (DV×DV)):RP b i S p kt kh km (sg.set kt (.map false es)) es eh em:=by obtain⟨ms,v,a⟩:=h.at_;exact⟨⟨ms,v,a.fF A.t.1 A.t.2.1 _⟩,by rw[Cw A.t.2.2];exact h.box,EZ A.l.1 es,by rw[LQ A.a.1];exact h.mh,by rw[LQ A.a.2.1];exact h.mm⟩
def B2J(ok:S.Ok)(n:Nat)(from_ to:List Nat)(hf:∀f∈from_,f<S.l.length)(ht:∀t∈to,t<S.l.length)(hl:from_.length=to.length)(hz:to.length<2 ^ 31):∀(q j:Nat)(K:List (Nat×Nat))(sg:List E5)(et eh em:List (DV×DV)),j+q=from_.length->RP b i S p kt kh km sg et eh em->Apart b i p kt kh km sg.length->Ic et K->(∀e∈K,e.2<S.l.length)->
 ∃et',(match S.keys (from_.drop j) (to.drop j) K with
   |none=>DI C8 b (iN n) (.list 1 (to.map iN)) p (.list 1 (from_.map iN)) (iN from_.length) (iN j) sg=some ([iN 0,iN 1],sg.set kt (.map false et'))
   |some K'=>DI C8 b (iN n) (.list 1 (to.map iN)) p (.list 1 (from_.map iN)) (iN from_.length) (iN j) sg=DI C8 b (iN n) (.list 1 (to.map iN)) p (.list 1 (from_.map iN)) (iN from_.length) (iN from_.length) (sg.set kt (.map false et'))/\Ic et' K'/\∀e∈K',e.2<S.l.length):=by
 intro q;induction q with
 |zero=>intro j K sg et eh em hj h A T hk;rw[z9q (by omega),E9.keys,show j=from_.length by omega];exact⟨et,by rw[NM h.mt],T,hk⟩
 |succ q ih=>
   intro j K sg et eh em hj h A T hk;have O8:j<from_.length:=by omega
   have FQ:j<to.length:=by omega
   have h1:=hf _ (z7q O8);have h2:=ht _ (z7q FQ);obtain⟨ms,v,a⟩:=id h.at_;obtain⟨d,d1,-,-,-,d5,-⟩:=ok.nd h1;obtain⟨mk,-,-,e⟩:=a.nd d1;have cp:Bq (xm b kt kh km) 1=some kt:=rfl;have start:=Rc C8 b (iN n) (.list 1 (to.map iN)) p (.list 1 (from_.map iN)) (iN from_.length) (iN j) sg;simp only[Af,I7,F3,O8,K3,F5,IE O8,Bf,F8,NY h.at_ ok h1,z0q,uV,P5,z1q,G8,IE FQ,X_ h.at_,h2,U4,z4q,a.box,CV,Jh (ok.Fu h1),a.Q0,e,beq_self_eq_true,nd0,show(DV.int .i64 6)=iN 6 from rfl,Xu,d5,h.box,cp,LP,zmq,h.mt,T (S.root from_[j]),addN (show j<2 ^ 62 by omega)]at start;rw[z3q O8,z3q FQ,E9.keys];by_cases h6:S.F9 (S.root from_[j])=6
   ·cases kL:FC K (S.root from_[j])with
    |none=>
      have hn:=Kj.1 kL;rw[C9 ⟨h6,hn⟩];simp only[h6,K3,z4q,z1q,G8,kL,y2q,ztq]at start;have FR:∀e∈K++[(S.root from_[j],to[j])],e.2<S.l.length:=by
       intro e he;rcases zzq.1 he with g | g
       ·exact hk e g
       ·rw[ziq.1 g];exact h2
      obtain⟨et',x⟩:=ih (j+1) (K++[(S.root from_[j],to[j])]) _ _ eh em (by omega) (h.B8W A (Bz et (iN (S.root from_[j])) (iN to[j]))) (A.len (by simp)) (T.set hn) FR;refine⟨et',?_⟩;simp only[List.tail_cons,List.headD_cons];rw[start];rw[zxq]at x;exact x
    |some t=>have hn:S.root from_[j]∈K.map (·.1):=zwq (f:=(·.1)) (PY kL);rw[A7 (λg=>g.2 hn)];simp only[h6,K3,z4q,z1q,G8,kL,zWq,zuq,F5]at start;exact⟨et,by rw[NM h.mt];exact start⟩
   ·rw[A7 (λg=>h6 g.1)];simp only[h6,R8,zcq,F5]at start;exact⟨et,by rw[NM h.mt];exact start⟩
def B2Z(ok:S.Ok)(n:Nat)(hn:n<S.l.length){K:List (Nat×Nat)}(T:Ic et K):∀(q j c:Nat)(sg:List E5)(eh:List (DV×DV)),j+q=(S.roots n).length->c<=j->RP b i S p kt kh km sg et eh em->Apart b i p kt kh km sg.length->QT S (K.map (·.1)) eh->
 ∃eh',BA C8 b (iN n) p (iN c) (.list 1 ((S.roots n).map iN)) (iN (S.roots n).length) (iN j) sg=BA C8 b (iN n) p (iN (c+(((S.roots n).drop j).filter λr=>S.F9 r != 6&&(S.I8 r).has (K.map (·.1))).length)) (.list 1 ((S.roots n).map iN)) (iN (S.roots n).length) (iN (S.roots n).length) (sg.set kh (.map false eh'))/\QT S (K.map (·.1)) eh':=by
 intro q;induction q with
 |zero=>intro j c sg eh hj hc h A H;rw[z9q (by omega),show j=(S.roots n).length by omega];exact⟨eh,by rw[NM h.mh];rfl,H⟩
 |succ q ih=>
   intro j c sg eh hj hc h A H;have O8:j<(S.roots n).length:=by omega
   have hl:=ok.A2J hn;have hx:=ok.NL hn (z7q O8);obtain⟨u,hu,hur,-⟩:=U2.sub (S.I8 n) n (ok.I8 hn) ((ok.CS hn).1 (z7q O8));obtain⟨ms,v,a⟩:=id h.at_;obtain⟨d,hd⟩:∃d,S.l[(S.roots n)[j]]?=some d:=⟨_,zfq hx⟩;obtain⟨m,-,-,e⟩:=a.nd hd;have start:=Qw C8 b (iN n) p (iN c) (.list 1 ((S.roots n).map iN)) (iN (S.roots n).length) (iN j) sg;simp only[Af,I7,F3,O8,K3,F5,IE O8,Bf,F8,a.box,CV,Jh hx,a.Q0,e,beq_self_eq_true,nd0,show(DV.int .i64 6)=iN 6 from rfl,Xu,P5,addN (show j<2 ^ 62 by omega)]at start;rw[z3q O8,zZq,CB hd];by_cases h6:d.E8=6
   ·obtain⟨eh',y1,y2⟩:=ih (j+1) c sg eh (by omega) (by omega) h A H;simp only[h6,K3,z4q,z1q,G8]at start;refine⟨eh',?_,y2⟩;rw[start,y1];simp[h6]
   ·obtain⟨es,x1,x2⟩:=A7I (V6.refl S) (λn d h=>ok.k2 h) u sg eh hu.self h A T H;rw[hur]at x1;have hs:S.I8 (S.roots n)[j]=u:=hu.eq;have h2:=h.B1w A es;have A2:=A.len (m:=(sg.set kh (.map false es)).length) (by simp);simp only[h6,R8,zcq,F5,x1,I7,z0q,F3,addN (show c<2 ^ 62 by omega)]at start;rw[hs];by_cases hh:u.has (K.map (·.1))=true
    ·obtain⟨eh',y1,y2⟩:=ih (j+1) (c+1) _ es (by omega) (by omega) h2 A2 x2;rw[zxq]at y1;rw[C9 hh,y1]at start;refine⟨eh',?_,y2⟩;rw[start];simp[h6,hh,Nat.add_assoc,Nat.add_comm 1]
    ·obtain⟨eh',y1,y2⟩:=ih (j+1) c _ es (by omega) (by omega) h2 A2 x2;rw[zxq]at y1;rw[A7 hh,y1]at start;refine⟨eh',?_,y2⟩;rw[start];simp[h6,hh]
theorem A3B(ok:S.Ok){n:Nat}(hn:n<S.l.length)(K:List (Nat×Nat)):S.tick.need K n=S.need K n:=by
 have hr:S.tick.roots n=S.roots n:=by unfold E9.roots;rw[(ok.I8 hn).tick.eq]
 unfold E9.need;rw[hr];congr 1;refine List.filter_congr λr h=>?_;have:=ok.NL hn h;rw[(ok.I8 this).tick.eq];rfl
def B7f(h:Y5 b i S sg)(ok:S.Ok)(hr:S.J6+1<2 ^ 62){n:Nat}(hn:n<S.l.length){from_ to:List Nat}(hf:∀f∈from_,f<S.l.length)(ht:∀t∈to,t<S.l.length)(hl:from_.length=to.length)(hz:to.length<2 ^ 31):
 XT b i sg (C8.r Oz [(.undef,.ptr b 0),(iN n,.val),(.list 1 (from_.map iN),.val),(.list 1 (to.map iN),.val)] sg) [iN (S.copy n from_ to).2.1,iN (S.copy n from_ to).2.2] (S.copy n from_ to).1:=by
 obtain⟨ms,v,a⟩:=id h;have la:=a.lb;have li:=a.lv
 let k:=sg.length
 let K4:=sg++[.map false [],.map false [],.map false [],.box (xm b k (k+1) (k+2))]
 have C1:RP b i S (k+3) k (k+1) (k+2) K4 [] [] []:=by refine⟨h.app _,?_,?_,?_,?_⟩<;>simp[K4,H5,R9,k,zlq]
 have A1:Apart b i (k+3) k (k+1) (k+2) K4.length:=by
  have e:K4.length=k+4:=by simp[K4,k]
  rw[e];constructor<;>omega
 have s1:(((sg++[E5.map false []])++[E5.map false []])++[E5.map false []])++[E5.box [(.undef,(.ptr b 0)),(.undef,(F4.map sg.length)),(.undef,(F4.map (sg++[E5.map false []]).length)),(.undef,(F4.map ((sg++[E5.map false []])++[E5.map false []]).length))]]=K4:=by simp[K4,xm,k]
 have s2:(((sg++[E5.map false []])++[E5.map false []])++[E5.map false []]).length=k+3:=by simp[k]
 have start:=(nC b (iN n) (.list 1 (from_.map iN)) (.list 1 (to.map iN)) sg).trans (qw _ _ _ _ _ _);simp only[X_ h,hn,K3,I7,z0q,U4,z4q,P5,z1q,G8,Sk,Xu,hl,F3,s1,s2]at start;have fr:∀(sg':List E5),K4.length<=sg'.length->(∀j,j<k->j≠b->j≠i->sg'[j]?=K4[j]?)->Kp b i sg sg':=λsg' h1 h2=>⟨by simp only[K4,zgq]at h1;omega,λj hj g1 g2=>(h2 j hj g1 g2).trans (zaq hj)⟩
 obtain⟨et,x⟩:=B2J (p:=k+3) (kt:=k) (kh:=k+1) (km:=k+2) ok n from_ to hf ht hl hz from_.length 0 [] K4 [] [] [] (by omega) C1 A1 Ic.nil (by simp);rw[hl]at x;rw[zbq,zbq]at x;have C2:=C1.B8W A1 et;have A2:=A1.len (m:=(K4.set k (.map false et)).length) (by simp);unfold E9.copy;cases hk:S.keys from_ to []with
 |none=>rw[hk]at x;simp only at x ⊢;refine⟨_,start.trans x,C2.at_,fr _ (by simp) λj hj _ _=>z2q (by omega)⟩
 |some K=>
   rw[hk]at x;obtain⟨x1,x2,x3⟩:=x;obtain⟨sg2,r1,r2,r3⟩:=oh C2.at_ ok hr (ok.I8 hn);have C3:=C2.kp A2 r3 r2;have A3:=A2.len r3.le;have rt:S.tick.roots n=S.roots n:=by unfold E9.roots;rw[(ok.I8 hn).tick.eq]
   obtain⟨eh,y1,y2⟩:=B2Z (S:=S.tick) (p:=k+3) (kt:=k) (kh:=k+1) (km:=k+2) ok.tick n hn x2 (S.roots n).length 0 0 sg2 [] (by rw[rt];omega) (by omega) C3 A3 (λr=>.inl rfl);rw[zbq,zHq]at y1;have B9y:((S.tick.roots n).filter λr=>S.tick.F9 r != 6&&(S.tick.I8 r).has (K.map (·.1))).length=S.need K n:=A3B ok hn K;rw[B9y,rt]at y1;have C4:=C3.B1w A3 eh;have A4:=A3.len (m:=(sg2.set (k+1) (.map false eh)).length) (by simp);have nl:S.need K n<=(S.roots n).length:=zTq ..;obtain⟨cs,c0,c1,c2⟩:=C4.at_.cnt;have hc:=ok.cm;have hm:=ok.mm;have c1':U8 cs 1=some (iN S.mx):=c1;have c2':U8 cs 2=some (iN S.cnt):=c2;have e5:=Rc C8 b (iN n) (.list 1 (to.map iN)) (k+3) (.list 1 (from_.map iN)) (iN to.length) (iN to.length) (K4.set k (.map false et));have e17:=Qw C8 b (iN n) (k+3) (iN (S.need K n)) (.list 1 ((S.roots n).map iN)) (iN (S.roots n).length) (iN (S.roots n).length) (sg2.set (k+1) (.map false eh));simp only[Af,zkq,R8,I7,F3,z1q,G8,r1,z0q,Sk]at e5;simp only[Af,zkq,R8,I7,F3,z1q,G8,c0,c1',c2',B1K hc (show S.mx<2 ^ 62 by omega),yH,I4]at e17;have y1':BA C8 b (iN n) (k+3) (iI 0) (.list 1 ((S.roots n).map iN)) (iN (S.roots n).length) (iI 0) sg2=_:=y1;have st2:=(start.trans x1).trans (e5.trans (y1'.trans e17));have f2:∀j,j<k->j≠b->j≠i->(sg2.set (k+1) (.map false eh))[j]?=K4[j]?:=λj hj g1 g2=>by rw[z2q (by omega),r3.eq j (by simp only[zLq];have:=A1.l.1;omega) g1 g2,z2q (by omega)]
   have l2:K4.length<=(sg2.set (k+1) (.map false eh)).length:=by have:=r3.le;simp only[zLq]at this ⊢;exact this
   simp only
   by_cases g:S.need K n>S.mx-S.cnt
   ·rw[C9 g]at st2 ⊢;exact⟨_,st2,C4.at_,fr _ l2 f2⟩
   ·rw[A7 g]at st2 ⊢;have CI0:CI S.tick ((S.tick.roots n).filter λr=>S.tick.F9 r != 6&&(S.tick.I8 r).has (K.map (·.1))) S.tick []:=⟨ok.tick,Ct.refl _,rfl,rfl,by simp,yhq,by simp⟩;obtain⟨bP,eh3,em3,z1,z2,z3,z4,z5,z6⟩:=B7l (S0:=S.tick) (n0:=n) ok.tick x3 (by rw[A3B ok hn];exact Nat.not_lt.1 g) rfl x2 (S.I8 n) n (ok.I8 hn).tick (λx hx=>by rw[rt];exact(ok.CS hn).2 hx) S.tick [] _ eh [] CI0 C4 A4 Ic.nil y2;refine⟨bP,st2.trans ?_,z2.at_,fr _ (zGq l2 z5) λj hj g1 g2=>?_⟩
    ·rw[z1];rfl
    ·have:=A1.l.1;rw[z6 j (by omega) g1 g2 (by omega) (by omega)];exact f2 j hj g1 g2
end
end Go.Su

/-
 Agreement: what a variable becomes; the loop.
-/
namespace Go.Su
set_option linter.defProp false
section
variable {b i:Nat}{S:E9}{sg:List E5}
theorem Od(a c:DV):Q4 0 (.J8 [a,c])=some a:=rfl
theorem Oe(a c:DV):Q4 1 (.J8 [a,c])=some c:=rfl
def A1F{sg sg':List E5}{k n:Nat}{x:Nat×List DV}(h:V5 sg k n=some x)(e:sg'[k]?=sg[k]?):V5 sg' k n=some x:=by rw[oQ e];exact h
def frs(l:List Nat):List DV:=[iN (l.getD 0 0),iN (l.getD 1 0)]
structure Kb(b i n:Nat)(sg sg':List E5):Prop where
 le:sg.length<=sg'.length
 eq:∀j,j<n->j≠b->j≠i->sg'[j]?=sg[j]?
def Kb.refl{b i n:Nat}(sg:List E5):Kb b i n sg sg:=⟨zeq _,λ_ _ _ _=>rfl⟩
def Kb.trans{b i n:Nat}{x y z:List E5}(h:Kb b i n x y)(k:Kb b i n y z):Kb b i n x z:=⟨zGq h.le k.le,λj hj h1 h2=>(k.eq j hj h1 h2).trans (h.eq j hj h1 h2)⟩
def Kp.kb{b i n:Nat}{x y:List E5}(h:Kp b i x y)(hn:n<=x.length):Kb b i n x y:=⟨h.le,λj hj h1 h2=>h.eq j (z5q hj hn) h1 h2⟩
def Kb.set{b i n k:Nat}(x:List E5)(o:E5)(h:n<=k):Kb b i n x (x.set k o):=⟨by simp,λj hj _ _=>z2q (by omega)⟩
def Kb.kp{b i:Nat}{x y:List E5}(h:Kb b i x.length x y):Kp b i x y:=⟨h.le,h.eq⟩
def Kb.app{b i n:Nat}(x L:List E5)(h:n<=x.length):Kb b i n x (x++L):=(Kp.app x L).kb h
def B6z{out:List Nat}{x j:Nat}(h:out.length=j)(hj:j<2):KQ 1 0 (iN 0) [(iN x,.val)]=some (iN x)/\(frs out)[j]?=some (iN 0)/\(frs out).set j (iN x)=frs (out++[x]):=by
 subst h
 match out,hj with
 |[],_=>exact⟨rfl,rfl,rfl⟩
 |[a],_=>exact⟨rfl,rfl,rfl⟩
def A76{v w A9 kv n0 k:Nat}(B8g:A9<2 ^ 31)(hk:k<=2)(hn:n0<=kv)(hb:kv≠b)(hi:kv≠i):∀(q j:Nat)(out:List Nat)(S:E9)(sg:List E5),j+q=k->out.length=j->Y5 b i S sg->S.Ok->v<S.l.length->S.F9 (S.root v)=6->S.X4 (S.root v)=A9->V5 sg kv 1=some (1,frs out)->
 ∃sg',Y5 b i (E9.fresh A9 q S).1 sg'/\Kb b i n0 sg sg' /\(((E9.fresh A9 q S).2.2≠0->Dv C8 b (iN v) (iN w) kv 1 2 (iN k) (iN j) sg=some ([iI (-1),iN (E9.fresh A9 q S).2.2],sg')) /\((E9.fresh A9 q S).2.2=0->Dv C8 b (iN v) (iN w) kv 1 2 (iN k) (iN j) sg=Dv C8 b (iN v) (iN w) kv 1 2 (iN k) (iN k) sg'/\V5 sg' kv 1=some (1,frs (out++(E9.fresh A9 q S).2.1)))):=by
 intro q;induction q with
 |zero=>intro j out S sg hj ho h ok hv h6 hl A2s;exact⟨sg,h,Kb.refl _,λg=>absurd rfl g,λ_=>⟨by rw[show j=k by omega],by simpa[E9.fresh]using A2s⟩⟩
 |succ q ih=>
   intro j out S sg hj ho h ok hv h6 hl A2s;have O8:j<k:=by omega
   have lk:=bR A2s;obtain⟨K4,e1,a1,k1⟩:=A7G h ok A9;obtain⟨o1,o2,o3,o4,-,-⟩:=VN ok B8g;have start:=Xe C8 b (iN v) (iN w) kv 1 2 (iN k) (iN j) sg;have B5L:=A1F A2s (k1.eq kv lk hb hi);obtain⟨s1,s2,s3⟩:=B6z (x:=(S.var A9).2.1) ho (by omega);simp only[Af,I7,F3,O8,K3,F5,A3Q h ok hv h6,hl,z0q,e1,Od,Oe,show(DV.int .i64 0)=iN 0 from rfl,Xu]at start;rw[E9.fresh];by_cases he:(S.var A9).2.2=0
   ·rw[C9 he];simp only[he,K3,z4q,z1q,G8,Jh (show j<2 by omega),I7,B5L,s2,beq_self_eq_true,F8,P6,s1,show(DV.int .i64 0)=iN 0 from rfl,addN (show j<2 ^ 62 by omega),s3]at start;have lk1:=bR B5L;obtain⟨ms,vv,am⟩:=a1;have a2:=am.fF hb hi (.Q0 1 1 (frs (out++[(S.var A9).2.1])));have rv:=o2.root ok hv;have ka:(S.var A9).1.F9 (S.root v)=S.F9 (S.root v):=(V6.at_ o2.like (ok.Fu hv)).1;have la:(S.var A9).1.X4 (S.root v)=S.X4 (S.root v):=by
     unfold E9.var;split
     ·rfl
     ·simp only[E9.X4,E9.add]
      rw[zaq (ok.Fu hv)]
    obtain⟨sg2,b1,b2,b3,b4⟩:=ih (j+1) (out++[(S.var A9).2.1]) _ _ (by omega) (by simp[ho]) a2.at o1 (z5q hv o2.le) (by rw[rv,ka,h6]) (by rw[rv,la,hl]) (ZR lk1 ..);refine⟨sg2,b1,((k1.kb (by omega)).trans (Kb.set _ _ hn)).trans b2,λg=>start.trans (b3 g),λg=>?_⟩;obtain⟨c1,c2⟩:=b4 g;exact⟨start.trans c1,by rw[c2];simp⟩
   ·rw[A7 he];simp only[he,R8,zcq,F5]at start;exact⟨K4,a1,k1.kb (by omega),λ_=>start,λg=>absurd g he⟩
def Y5.lt(h:Y5 b i S sg):b<sg.length/\i<sg.length:=by obtain⟨ms,v,h⟩:=h;exact⟨h.lb,h.lv⟩
def A3S(h:Y5 b i S sg)(ok:S.Ok)(hr:S.J6+5<2 ^ 62){v w:Nat}(hv:v<S.l.length)(hw:w<S.l.length)(rv:S.root v=v)(rw_:S.root w=w)(hne:v≠w)(yI:w≠4)(h6:S.F9 v=6):
 XT b i sg (C8.r QJ [(.undef,.ptr b 0),(iN v,.val),(iN w,.val)] sg) [lnk (S.become v w).2.1,iN (S.become v w).2.2] (S.become v w).1:=by
 have start:=(zO b (iN v) (iN w) sg).trans (A0S _ _ _ _ _);have h6':S.F9 (S.root v)=6:=by rw[rv];exact h6
 have k6:D7 .eql (iN (S.F9 w)) (iI 6)=some (.bool (decide (S.F9 w=6))):=Og _ 6;simp only[Sq h ok hw,rw_,I7,z0q,k6,P5,I4]at start;unfold E9.become;split
 ·rename_i g;obtain⟨K4,e1,a1,k1⟩:=A2Q h ok (by omega) hv hw;rw[C9 g,e1]at start;exact⟨K4,start,a1,k1⟩
 ·rename_i g;obtain⟨K4,e1,a1,k1⟩:=B3v h ok (by omega) hw;rw[A7 g,e1]at start;simp only[I7,z0q,F3,I4]at start;split
  ·rename_i g4;obtain⟨sg2,e2,a2,k2⟩:=A2Q a1 ok.tick (show S.J6+1+2<2 ^ 62 by omega) (show v<S.tick.l.length from hv) (show w<S.tick.l.length from hw);rw[C9 g4,e2]at start;exact⟨sg2,start,a2,k1.trans k2⟩
  ·rename_i g4;obtain⟨sg2,e2,a2,k2⟩:=A3R a1 ok.tick (show S.J6+1+1<2 ^ 62 by omega) (show v<S.tick.l.length from hv) (show w<S.tick.l.length from hw);have rt:S.tick.root v=v:=by have:S.tick.root v=S.root v:=(ok.I8 hv).tick.GR;rw[this,rv]
   have rr:S.tick.roots w=S.roots w:=by unfold E9.roots;rw[(ok.I8 hw).tick.eq]
   rw[A7 g4,e2,rt,rr]at start;simp only[I7,z0q,F3,I4]at start;split
   ·rename_i gi;rw[C9 gi]at start;exact⟨sg2,start,a2,k1.trans k2⟩
   ·rename_i gi;rw[A7 gi]at start;have TS:=ok.tick.tick;have a3:=a2.app [.Q0 1 1 [iI 0,iI 0]];have w2:S.tick.tick.root w=w:=by have:S.tick.tick.root w=S.root w:=(ok.I8 hw).tick.tick.GR;rw[this,rw_]
    have v2:S.tick.tick.root v=v:=by have:S.tick.tick.root v=S.root v:=(ok.I8 hv).tick.tick.GR;rw[this,rv]
    have kq:=oW a3 TS (show w<S.tick.tick.l.length from hw);rw[w2]at kq;have kk:S.tick.tick.I6 w=S.I6 w:=rfl;rw[kk]at kq;simp only[kq,I7,z0q,Sk]at start;have l2:=a2.lt;have RA:(S.I6 w).length<=2:=by rw[ok.YM hw];exact Zr _
    have A2s:V5 (sg2++[E5.Q0 1 1 [iI 0,iI 0]]++[E5.arr 1 []]) sg2.length 1=some (1,frs []):=by simp[V5];rfl
    obtain⟨bP,b1,b2,b3,b4⟩:=A76 (b:=b) (i:=i) (v:=v) (w:=w) (A9:=S.X4 v) (kv:=sg2.length) (n0:=sg2.length) (k:=(S.I6 w).length) (ok.A9 hv) RA (zeq _) (by omega) (by omega) (S.I6 w).length 0 [] S.tick.tick _ (by omega) rfl (a3.app _) TS hv (by rw[v2];exact h6) (by rw[v2];rfl) A2s;have kz:Kp b i sg bP:=by refine(k1.trans k2).trans (Kb.kp ?_);exact((Kb.app sg2 _ (zeq _)).trans (Kb.app _ _ (by simp))).trans b2
    have start:_=Dv C8 b (iN v) (iN w) sg2.length 1 2 (iN (S.I6 w).length) (iN 0) (sg2++[E5.Q0 1 1 [iI 0,iI 0]]++[E5.arr 1 []]):=start;obtain⟨f1,f2,f3,f4,f5,f6⟩:=LJ (ok.A9 hv) (S.I6 w).length _ TS;simp only;generalize hq:E9.fresh (S.X4 v) (S.I6 w).length S.tick.tick=q at f1 f2 f3 f4 f5 f6 b1 b2 b3 b4 ⊢;split
    ·rename_i ge;exact⟨bP,start.trans (b3 ge),b1,kz⟩
    ·rename_i ge;have g0:q.2.2=0:=Classical.not_not.1 ge;obtain⟨c1,c2⟩:=b4 g0;rw[zrq]at c2;have e7:=Xe C8 b (iN v) (iN w) sg2.length 1 2 (iN (S.I6 w).length) (iN (S.I6 w).length) bP;have hwq:w<q.1.l.length:=z5q hw (show S.l.length<=q.1.l.length from f2.le);have wq:q.1.root w=w:=by rw[f2.root TS hw,w2]
     have kwq:q.1.F9 w=S.F9 w:=(V6.at_ f2.like (show w<S.tick.tick.l.length from hw)).1;have z0:(frs q.2.1)[0]?=some (iN (q.2.1.getD 0 0)):=rfl;have z1:(frs q.2.1)[1]?=some (iN (q.2.1.getD 1 0)):=rfl;have ar0:j5 0 2 (iN 0)=some 0:=rfl;have ar1:j5 0 2 (iI 1)=some 1:=rfl;have ql:=f6 g0;have kw:=ok.knd hw;have kn:=ok.YM hw;have Q9:4∈S.roots w:=Classical.not_not.1 g4;have Yh:S.F9 w=7\/S.F9 w=8\/S.F9 w=9:=by
      by_cases A4Z:S.F9 w<=5
      ·exfalso;have h0:(S.I6 w).length=0:=by rw[kn];unfold Ml;rw[A7 (by omega),A7 (by omega)]
       obtain⟨d,d1,-,d3,d4,-⟩:=(ok.I8 hw).nd;have hr:(S.I8 w).r=w:=rw_;rw[hr]at d1;have hk:(S.I8 w).D5=[]:=by
        have:d.D5.length=0:=by rw[<- Cu d1];exact h0
        exact zNq.1 (by omega)
       rcases NT.BZ.1 ((ok.CS hw).1 Q9)with e | ⟨u,hu,-⟩
       ·exact absurd (show w=4 by rw[<- hr];exact e.symm) yI
       ·rw[hk]at hu;cases hu
      ·omega
     have p0:q.2.1.getD 0 0<q.1.l.length:=by
      have:0<q.2.1.length:=by rw[ql,kn];unfold Ml;split<;>(try split)<;>omega
      rw[zpq,zfq this];exact f5 _ (z7q this)
     have p1:S.F9 w≠8->q.2.1.getD 1 0<q.1.l.length:=by
      intro h8;have:1<q.2.1.length:=by rw[ql,kn];unfold Ml;rw[A7 h8,C9 (by omega)];omega
      rw[zpq,zfq this];exact f5 _ (z7q this)
     obtain⟨sg4,x1,x2,x3⟩:=A2R b1 f1 Yh p0 p1;have oe:∀{β : Type}(y:Option β),MZ True y=y:=λy=>by unfold MZ;rw[C9 trivial]
     simp only[Af,zkq,R8,I7,F3,z1q,G8,Sq b1 f1 hwq,wq,kwq,z0q,ar0,c2,z0,beq_self_eq_true,F8,Bf,oe,ar1,z1,x1,Od,Oe,show(DV.int .i64 0)=iN 0 from rfl,Xu]at e7;have vN:=start.trans (c1.trans e7);obtain⟨m1,m2,m3,m4,m5,m6⟩:=MW f1 Yh p0 p1;generalize q.1.make (S.F9 w) (q.2.1.getD 0 0) (q.2.1.getD 1 0)=z at m1 m2 m3 m4 m5 m6 x1 x2 x3 e7 vN ⊢;split
     ·rename_i gz;simp only[gz,R8,zcq,F5]at vN;exact⟨sg4,vN,x2,kz.trans x3⟩
     ·rename_i gz;have z00:z.2.2=0:=Classical.not_not.1 gz;have vz:v<z.1.l.length:=z5q hv (zGq f2.le m2.le);have rz:z.1.J6=S.J6+2:=by rw[m3,f3];rfl
      obtain⟨sg5,y1,y2,y3⟩:=A2Q x2 m1 (by omega) vz m4;simp only[z00,K3,z4q,z1q,G8,y1,I7,z0q]at vN;exact⟨sg5,vN,y2,(kz.trans x3).trans y3⟩
end
end Go.Su

/-
 Agreement: the loop.
-/
namespace Go.Su
set_option linter.defProp false
section
variable {b i tv:Nat}{S:E9}{sg:List E5}
def pe(p:Nat×Nat):DV:=.agg [iN p.1,iN p.2]
structure L_(tv Q7:Nat)(sg:List E5)(l:List (Nat×Nat)):Prop where
 Q0:∃ds,V5 sg tv Q7=some (2,ds)/\ds.take l.length=l.reverse.map pe/\l.length<=ds.length
variable {Q7:Nat}{l:List (Nat×Nat)}
def L_.keep{sg':List E5}(h:L_ tv Q7 sg l)(e:sg'[tv]?=sg[tv]?):L_ tv Q7 sg' l:=by obtain⟨ds,a,c,d⟩:=h;exact⟨ds,A1F a e,c,d⟩
def L_.lt(h:L_ tv Q7 sg l):tv<sg.length:=by obtain⟨ds,a,-⟩:=h;exact bR a
def L_.pop{p:Nat×Nat}(h:L_ tv Q7 sg (p::l)):L_ tv Q7 sg l/\∃ds,V5 sg tv Q7=some (2,ds)/\ds[l.length]?=some (pe p):=by
 obtain⟨ds,a,c,d⟩:=h;simp only[zdq,List.reverse_cons,y4q,zJq,zqq]at c d;refine⟨⟨ds,a,?_,by omega⟩,ds,a,?_⟩
 ·have:(ds.take (l.length+1)).take l.length=l.reverse.map pe:=by rw[c,List.take_left' (by simp)]
  rwa [List.take_take,Nat.min_eq_left (by omega)]at this
 ·have:(ds.take (l.length+1))[l.length]?=some (pe p):=by rw[c,zlq (by simp)];simp
  rwa [List.getElem?_take_of_lt (by omega)]at this
def L_.push{p:Nat×Nat}(h:L_ tv Q7 sg l):∃ds,V5 sg tv Q7=some (2,ds)/\l.length<=ds.length/\(ds.take l.length).length=l.length/\L_ tv (Q7+1) (sg.set tv (.Q0 (Q7+1) 2 (ds.take l.length++[pe p]))) (p::l):=by have hl:=h.lt;obtain⟨ds,a,c,d⟩:=h;refine⟨ds,a,d,by simp[d],⟨_,ZR hl ..,?_,by simp[d]⟩⟩;rw[zEq (by simp[d]),c];simp
variable {rest:List (Nat×Nat)}
def B3e(hr:rest.length<=70001)(hb:tv≠b)(hi:tv≠i)(ks js:List Nat)(hl:ks.length=js.length)(h2:ks.length<=2):∀(j Q7:Nat)(sg:List E5),j<=ks.length->Y5 b i S sg->L_ tv Q7 sg ((ks.drop j).zip (js.drop j)++rest)->
 ∃sg' ver',Lj C8 b (iN 0) (iN 0) tv Q7 ((ks.drop j).zip (js.drop j)++rest).length (.list 1 (ks.map iN)) (.list 1 (js.map iN)) (iI ((j:Int)-1)) sg=V7 C8 b (iN 0) (iN 0) tv ver' (ks.zip js++rest).length sg'/\Y5 b i S sg'/\L_ tv ver' sg' (ks.zip js++rest)/\Kb b i tv sg sg':=by
 intro j;induction j with
 |zero=>intro Q7 sg hj h T;rw[zbq,zbq]at T ⊢;refine⟨sg,Q7,?_,h,T,Kb.refl _⟩;rw[Xd];rfl
 |succ j ih=>
   intro Q7 sg hj h T;have hj1:j<ks.length:=by omega
   have FQ:j<js.length:=by omega
   obtain⟨ds,d1,d2,d3,T2⟩:=T.push (p:=(ks[j],js[j]));have hz:(ks[j],js[j])::((ks.drop (j+1)).zip (js.drop (j+1))++rest)=(ks.drop j).zip (js.drop j)++rest:=by rw[z3q hj1,z3q FQ];rfl
   have hn:((ks.drop (j+1)).zip (js.drop (j+1))++rest).length<=70004:=by rw[zgq,y5q,zoq];omega
   rw[hz]at T2;obtain⟨ms,v,a⟩:=h;obtain⟨sg',ver',x1,x2,x3,x4⟩:=ih (Q7+1) _ (by omega) (a.fF hb hi (.Q0 (Q7+1) 2 (ds.take ((ks.drop (j+1)).zip (js.drop (j+1))++rest).length++[pe (ks[j],js[j])]))).at T2;refine⟨sg',ver',?_,x2,x3,(Kb.set sg _ (zeq _)).trans x4⟩;rw[Xd];have e1:(DV.int .i64 (((j+1:Nat):Int)-1))=iN j:=by simp only[iN];congr 1;omega
   have e2:D7 .sub (iN j) (iI 1)=some (iI ((j:Int)-1)):=by simp only[iN];rw[IX,Fg (by omega) (by omega)]
   have ap:Jy 2 (.list 2 (ds.take ((ks.drop (j+1)).zip (js.drop (j+1))++rest).length)) (.list 2 [pe (ks[j],js[j])])=some (ds.take ((ks.drop (j+1)).zip (js.drop (j+1))++rest).length,[pe (ks[j],js[j])]):=by simp only[Jy,and_self,true_and,d3,zdq,z8q];rw[C9 ⟨by unfold Q8;omega,by omega⟩]
   have ep:DV.agg [iN ks[j],iN js[j]]=pe (ks[j],js[j]):=rfl;simp only[e1,B0K,I7,F3,F5,IE hj1,IE FQ,Bf,P6,F8,d1,beq_self_eq_true,zmq,d2,K3,ep,ap,d3,zdq,z8q,zHq,e2];have uS:((ks.drop (j+1)).zip (js.drop (j+1))++rest).length+1=((ks.drop j).zip (js.drop j)++rest).length:=by rw[<- hz];rfl
   rw[uS];exact x1
def B3X(hr:rest.length<=70001)(hb:tv≠b)(hi:tv≠i)(h:Y5 b i S sg)(ok:S.Ok){x y:Nat}(hx:x<S.l.length)(hy:y<S.l.length)(hk:S.F9 (S.root x)=S.F9 (S.root y))(T:L_ tv Q7 sg rest):
 ∃sg' ver',GV C8 b (iN 0) (iN 0) tv Q7 rest.length (iN x) (iN y) sg=V7 C8 b (iN 0) (iN 0) tv ver' ((S.I6 (S.root x)).zip (S.I6 (S.root y))++rest).length sg'/\Y5 b i S sg'/\L_ tv ver' sg' ((S.I6 (S.root x)).zip (S.I6 (S.root y))++rest)/\Kb b i tv sg sg':=by
 have k1:=oW h ok hx;have h1:=h.app [.arr 1 []];have k2:=oW h1 ok hy;have h2:=h1.app [.arr 1 []];have lx:=ok.YM (ok.Fu hx);have ly:=ok.YM (ok.Fu hy);have l2:(S.I6 (S.root x)).length<=2:=by rw[lx];exact Zr _
 have tl:=T.lt;have T2:L_ tv Q7 (sg++[.arr 1 []]++[.arr 1 []]) rest:=T.keep (by rw[zaq (by simp;omega),zaq tl]);obtain⟨sg',ver',x1,x2,x3,x4⟩:=B3e (S:=S) (rest:=rest) hr hb hi (S.I6 (S.root x)) (S.I6 (S.root y)) (by rw[lx,ly,hk]) l2 (S.I6 (S.root x)).length Q7 _ (zeq _) h2 (by rw[ycq];simpa using T2);rw[ycq]at x1;simp only[List.zip_nil_left,zrq]at x1;refine⟨sg',ver',?_,x2,x3,((Kb.app sg [.arr 1 []] (by omega)).trans (Kb.app (sg++[.arr 1 []]) [.arr 1 []] (by simp;omega))).trans x4⟩;rw[wY];have e2:D7 .sub (iN (S.I6 (S.root x)).length) (iI 1)=some (iI (((S.I6 (S.root x)).length:Int)-1)):=by simp only[iN];rw[IX,Fg (by omega) (by omega)]
 simp only[k1,k2,I7,z0q,Sk,e2];exact x1
def B0e{F:E9}{H:Nat}(okF:F.Ok)(hF:F.J6+10<2 ^ 62)(hH:H<=70000)(hb:tv≠b)(hi:tv≠i):∀(f:Nat)(S:E9)(todo:List (Nat×Nat))(sg:List E5)(Q7:Nat)(q:E9×Nat×Nat×Nat),E9.P7 f S todo=some q->q.1=F->S.Ok->(∀p∈todo,p.1<S.l.length/\p.2<S.l.length)->Low F H todo->Y5 b i S sg->L_ tv Q7 sg todo->
 ∃sg',V7 C8 b (iN 0) (iN 0) tv Q7 todo.length sg=some ([iN q.2.1,iN q.2.2.1,iN q.2.2.2],sg')/\Y5 b i F sg'/\Kb b i tv sg sg':=by
 intro f;induction f with
 |zero=>intro S todo sg Q7 q h;simp[E9.P7]at h
 |succ f ih=>
   intro S todo sg Q7 q hq hqF ok hl B4z h T;obtain⟨okq,eq_,st⟩:=dF (f+1) S todo q ok hl hq;rw[hqF]at eq_ st;have rle:=eq_.J6;cases todo with
   |nil=>
     simp only[E9.P7,D8]at hq;subst hq;simp only at hqF;subst hqF;refine⟨sg,?_,h,Kb.refl _⟩;rw[Yb];simp only[z8q,A1N,I7,show(DV.int .i64 0)=iN 0 from rfl,yH,zkq,R8,F3,z1q,G8]
     rw[Ya];have z:D7 .gtr (iN 0) (iI 0)=some (.bool false):=rfl;simp only[z,I7,F3,z1q,G8]
     try rfl
   |cons p rest=>
     obtain⟨h1,h2⟩:=hl p (zAq ..);have Aw:∀q∈rest,q.1<S.l.length/\q.2<S.l.length:=λq hq=>hl q (zsq _ hq);obtain⟨T1,ds,t1,t2⟩:=T.pop;have rl:=B4z.2.len;have tl:=T.lt;have x1:=ok.Fu h1;have x2:=ok.Fu h2;have start:=Yb C8 b (iN 0) (iN 0) tv Q7 (rest.length+1) sg;have p0:A8 0 (pe p)=iN p.1:=rfl;have p1:A8 1 (pe p)=iN p.2:=rfl;have bd:bnd (rest.length+1) (some (iN rest.length))=some rest.length:=by simp only[bnd,iN];rw[C9 (by omega)];congr 1
     have k6:∀k,D7 .eql (iN k) (iI 6)=some (.bool (decide (k=6))):=λk=>Og k 6;have k4:∀k,D7 .eql (iN k) (iI 4)=some (.bool (decide (k=4))):=λk=>Og k 4;simp only[A1N,I7,yH,show(DV.int .i64 0)=iN 0 from rfl,Nat.succ_pos,K3,F3,F5,B1L (show rest.length<2 ^ 62 by omega),Jh (show rest.length<rest.length+1 by omega),t1,t2,beq_self_eq_true,F8,bd,C9 (show rest.length<=rest.length+1 by omega),p0,p1,NY h ok h1,NY h ok h2,z0q,Og,I4,k4,k6]at start;rw[zdq];have A2z:=B4z.2;have go:∀(T':E9)(K4:List E5)(ver':Nat)(l:List (Nat×Nat)),E9.P7 f T' l=some q->T'.Ok->(∀p∈l,p.1<T'.l.length/\p.2<T'.l.length)->Low F H l->Y5 b i T' K4->L_ tv ver' K4 l->Kb b i tv sg K4->V7 C8 b (iN 0) (iN 0) tv Q7 (rest.length+1) sg=V7 C8 b (iN 0) (iN 0) tv ver' l.length K4->
      ∃sg',V7 C8 b (iN 0) (iN 0) tv Q7 (rest.length+1) sg=some ([iN q.2.1,iN q.2.2.1,iN q.2.2.2],sg')/\Y5 b i F sg'/\Kb b i tv sg sg':=by
      intro T' K4 ver' l uP okT hlT lowT hT TT K e;obtain⟨sg',y1,y2,y3⟩:=ih T' l K4 ver' q uP hqF okT hlT lowT hT TT;exact⟨sg',e.trans y1,y2,K.trans y3⟩
     have kp:∀{K4:List E5},Kp b i sg K4->L_ tv Q7 K4 rest:=λk=>T1.keep (k.eq tv tl hb hi);have goK:∀(T':E9)(K4:List E5)(x y:Nat),E9.P7 f T' ((T'.I6 (T'.root x)).zip (T'.I6 (T'.root y))++rest)=some q->T'.Ok->Y3 S T'->BH T' F->Y5 b i T' K4->Kp b i sg K4->x<T'.l.length->y<T'.l.length->T'.F9 (T'.root x)=T'.F9 (T'.root y)->T'.F9 (T'.root x)≠6->T'.root p.1=T'.root x->V7 C8 b (iN 0) (iN 0) tv Q7 (rest.length+1) sg=GV C8 b (iN 0) (iN 0) tv Q7 rest.length (iN x) (iN y) K4->
      ∃sg',V7 C8 b (iN 0) (iN 0) tv Q7 (rest.length+1) sg=some ([iN q.2.1,iN q.2.2.1,iN q.2.2.2],sg')/\Y5 b i F sg'/\Kb b i tv sg sg':=by
      intro T' K4 x y uP okT ex sF hT k hx hy hk h6 hp e;obtain⟨sg2,ver',z1,z2,z3,z4⟩:=B3X (rest:=rest) (by omega) hb hi hT okT hx hy hk (kp k);have hpT:=z5q h1 ex.le;have rx:F.root x=T'.root x:=sF.root x hx h6;have kx:F.I6 (F.root x)=T'.I6 (T'.root x):=by rw[rx];exact(sF.at_ _ (okT.Fu hx)).2
      have xF:=z5q hx sF.le;have pF:=z5q hpT sF.le;have hh:F.I8 x=F.I8 p.1:=by
       have e1:F.I8 (F.root x)=F.I8 x:=(okF.I8 xF).self.eq;have e2:F.I8 (F.root p.1)=F.I8 p.1:=(okF.I8 pF).self.eq;have e3:F.root p.1=F.root x:=by rw[<- sF.same p.1 hpT,hp,sF.same x hx]
       rw[<- e1,<- e3,e2]
      have lz:=Low.zip okF xF A2z (by rw[hh];exact B4z.1) (T'.I6 (T'.root y)) (by rw[kx,okT.YM (okT.Fu hx)];exact Zr _);rw[kx]at lz;refine go T' sg2 ver' _ uP okT (λw hw=>?_) lz z2 z3 ((k.kb (by omega)).trans z4) (e.trans z1);rcases zzq.1 hw with hw | hw
      ·exact⟨okT.Ou hx (zXq hw).1,okT.Ou hy (zXq hw).2⟩
      ·exact⟨z5q (Aw w hw).1 ex.le,z5q (Aw w hw).2 ex.le⟩
     have fin:∀(K4:List E5),Y5 b i q.1 K4->Kp b i sg K4->V7 C8 b (iN 0) (iN 0) tv Q7 (rest.length+1) sg=some ([iN q.2.1,iN q.2.2.1,iN q.2.2.2],K4)->∃sg',V7 C8 b (iN 0) (iN 0) tv Q7 (rest.length+1) sg=some ([iN q.2.1,iN q.2.2.1,iN q.2.2.2],sg')/\Y5 b i F sg'/\Kb b i tv sg sg':=by intro K4 a k e;exact⟨K4,e,by rw[<- hqF];exact a,k.kb (by omega)⟩
     have rt2:∀{T':E9},Y3 S T'->∀w∈rest,w.1<T'.l.length/\w.2<T'.l.length:=λe w hw=>⟨z5q (Aw w hw).1 e.le,z5q (Aw w hw).2 e.le⟩;have stF:∀{T':E9}{l:List (Nat×Nat)},E9.P7 f T' l=some q->T'.Ok->(∀p∈l,p.1<T'.l.length/\p.2<T'.l.length)->BH T' F:=λa c d=>by
      have:=(dF f _ _ q c d a).2.2
      rwa [hqF]at this
     have B5O:∀(T':E9)(x y:Nat),T'.Ok->Y3 S T'->x<T'.l.length->y<T'.l.length->∀w∈(T'.I6 (T'.root x)).zip (T'.I6 (T'.root y))++rest,w.1<T'.l.length/\w.2<T'.l.length:=by
      intro T' x y okT e hx hy w hw;rcases zzq.1 hw with hw | hw
      ·exact⟨okT.Ou hx (zXq hw).1,okT.Ou hy (zXq hw).2⟩
      ·exact rt2 e w hw
     rw[X5]at hq;by_cases c1:S.root p.1=S.root p.2
     ·rw[C9 c1]at hq start;exact go S sg Q7 rest hq ok Aw A2z h T1 (Kb.refl _) start
     rw[A7 c1]at hq start;by_cases c2:S.root p.1=4
     ·rw[C9 c2]at hq start;obtain⟨K4,e1,a1,k1⟩:=A7F (A9:=0) h ok (by omega) x2;rw[e1]at start;exact go _ K4 Q7 rest hq (ok.lower _ _) (rt2 (Y3.lower S _ _)) A2z a1 (kp k1) (k1.kb (by omega)) start
     rw[A7 c2]at hq start;by_cases c3:S.root p.2=4
     ·rw[C9 c3]at hq start;obtain⟨K4,e1,a1,k1⟩:=A7F (A9:=0) h ok (by omega) x1;rw[e1]at start;exact go _ K4 Q7 rest hq (ok.lower _ _) (rt2 (Y3.lower S _ _)) A2z a1 (kp k1) (k1.kb (by omega)) start
     rw[A7 c3]at hq start;simp only[Sq h ok x1,ok.rr h1,I7,z0q,k6,F3,I4]at start;by_cases c4:S.F9 (S.root p.1)=6
     ·rw[C9 c4]at hq start;have B:=Ke ok x1 x2 (ok.rr h1) (ok.rr h2) c1 c3 c4;obtain⟨B2,B3⟩:=BH.become ok x1 x2 (ok.rr h1) (ok.rr h2) c1 c3 c4;obtain⟨K4,e1,a1,k1⟩:=A3S h ok (by omega) x1 x2 (ok.rr h1) (ok.rr h2) c1 c3 c4;simp only[e1,I7,Od,Oe,show(DV.int .i64 0)=iN 0 from rfl,Xu,F3]at start;by_cases e0:(S.become (S.root p.1) (S.root p.2)).2.2=0
      ·rw[A7 (λg=>g e0)]at hq;cases hm:(S.become (S.root p.1) (S.root p.2)).2.1 with
       |none=>rw[hm]at hq;have ln:D7 .lss (lnk none) (iN 0)=some (.bool true):=rfl;simp only[e0,hm,K3,z4q,z1q,G8,ln,I7,F3,F5]at start;exact go _ K4 Q7 rest hq B.ok (rt2 B.ext) A2z a1 (kp k1) (k1.kb (by omega)) start
       |some m=>
         rw[hm]at hq;obtain⟨b1,b2,b3,b4⟩:=B.some m e0 hm;have ln:∀m,D7 .lss (lnk (some m)) (iN 0)=some (.bool false):=λm=>uV m;simp only[e0,hm,K3,z4q,z1q,G8,ln,I7,F3]at start;have yl:=z5q x2 B.ext.le;refine goK _ K4 m (S.root p.2) hq B.ok B.ext (stF hq B.ok (B5O _ m _ B.ok B.ext b1 yl)) a1 k1 b1 yl b3 ?_ ?_ start
         ·rw[b3,b4];intro h6;unfold E9.become at hm;rw[C9 h6]at hm;cases hm
         ·rw[<- B3 m e0 hm];exact(B2.same _ h1).symm
      ·rw[C9 e0]at hq;simp only[D8]at hq;subst hq;simp only[e0,R8,zcq,F5]at start;exact fin K4 a1 k1 start
     rw[A7 c4]at hq start;simp only[Sq h ok x2,ok.rr h2,I7,z0q,k6,F3,I4]at start;by_cases c5:S.F9 (S.root p.2)=6
     ·rw[C9 c5]at hq start;have B:=Ke ok x2 x1 (ok.rr h2) (ok.rr h1) (Ne.symm c1) c2 c5;obtain⟨B2,B3⟩:=BH.become ok x2 x1 (ok.rr h2) (ok.rr h1) (Ne.symm c1) c2 c5;obtain⟨K4,e1,a1,k1⟩:=A3S h ok (by omega) x2 x1 (ok.rr h2) (ok.rr h1) (Ne.symm c1) c2 c5;simp only[e1,I7,Od,Oe,show(DV.int .i64 0)=iN 0 from rfl,Xu,F3]at start;by_cases e0:(S.become (S.root p.2) (S.root p.1)).2.2=0
      ·rw[A7 (λg=>g e0)]at hq;cases hm:(S.become (S.root p.2) (S.root p.1)).2.1 with
       |none=>rw[hm]at hq;have ln:D7 .lss (lnk none) (iN 0)=some (.bool true):=rfl;simp only[e0,hm,K3,z4q,z1q,G8,ln,I7,F3,F5]at start;exact go _ K4 Q7 rest hq B.ok (rt2 B.ext) A2z a1 (kp k1) (k1.kb (by omega)) start
       |some m=>rw[hm]at hq;obtain⟨b1,b2,b3,b4⟩:=B.some m e0 hm;have ln:∀m,D7 .lss (lnk (some m)) (iN 0)=some (.bool false):=λm=>uV m;simp only[e0,hm,K3,z4q,z1q,G8,ln,I7,F3]at start;have xl:=z5q x1 B.ext.le;exact goK _ K4 (S.root p.1) m hq B.ok B.ext (stF hq B.ok (B5O _ _ m B.ok B.ext xl b1)) a1 k1 xl b1 b3.symm (by rw[b4];exact c4) (B2.same _ h1).symm start
      ·rw[C9 e0]at hq;simp only[D8]at hq;subst hq;simp only[e0,R8,zcq,F5]at start;exact fin K4 a1 k1 start
     rw[A7 c5]at hq start;simp only[Sq h ok x1,Sq h ok x2,ok.rr h1,ok.rr h2,I7,z0q,Xu,F3]at start;by_cases c6:S.F9 (S.root p.1)=S.F9 (S.root p.2)
     ·rw[A7 (λg=>g c6)]at hq;simp only[c6,K3,z4q,z1q,G8]at start;have Uu:E9.P7 f S ((S.I6 (S.root (S.root p.1))).zip (S.I6 (S.root (S.root p.2)))++rest)=some q:=by rw[ok.rr h1,ok.rr h2];exact hq
      exact goK S sg (S.root p.1) (S.root p.2) Uu ok (Y3.refl S) st h (Kp.refl _) x1 x2 (by rw[ok.rr h1,ok.rr h2];exact c6) (by rw[ok.rr h1];exact c4) (ok.rr h1).symm start
     ·rw[C9 c6]at hq;simp only[D8]at hq;subst hq;have kd:=ok.knd x1;simp only[c6,R8,zcq,F5]at start;rw[Ya]at start;have:D7 .gtr (iN (S.F9 (S.root p.1))) (iI 0)=some (.bool true):=by exact(yH _ 0).trans (by rw[decide_eq_true (by omega)])
      rw[this]at start;exact fin sg h (Kp.refl _) start
def A7D(h:Y5 b i S sg)(ok:S.Ok){x y:Nat}(hx:x<S.l.length)(hy:y<S.l.length)(hr:(S.agree x y).1.J6+10<2 ^ 62):
 XT b i sg (C8.r Ry [(.undef,.ptr b 0),(iN x,.val),(iN y,.val)] sg) [iN (S.agree x y).2.1,iN (S.agree x y).2.2.1,iN (S.agree x y).2.2.2] (S.agree x y).1:=by
 obtain⟨f,hf⟩:=Vw ok hx hy;obtain⟨o1,o2,o3⟩:=yu ok hx hy;have hl:=h.lt;have hs:=h.app [.Q0 1 2 [pe (x,y)]];have T:L_ sg.length 1 (sg++[.Q0 1 2 [pe (x,y)]]) [(x,y)]:=⟨[pe (x,y)],by simp[V5],rfl,by simp⟩;have hh:=o1.high (z5q hx o3.le);have ll:=o1.len;obtain⟨sg',e1,a1,k1⟩:=B0e (tv:=sg.length) (b:=b) (i:=i) (H:=70000) o1 hr (zeq _) (by omega) (by omega) f S [(x,y)] _ 1 (S.agree x y) hf rfl ok (by simp[hx,hy]) ⟨by simp only[z8q];omega,trivial⟩ hs T;refine⟨sg',?_,a1,⟨by have:=k1.le;simp only[zgq]at this;omega,λj hj g1 g2=>(k1.eq j hj g1 g2).trans (zaq hj)⟩⟩
 ·refine(A02 _ _ _ _).trans ?_;rw[A14];simp only[NY h ok hx,NY h ok hy,I7,z0q,uV,P5,F3,z1q,G8,P6,F8];exact e1
end
end Go.Su

/-
 Patterns are put into a store.
-/
namespace Go.Su
set_option linter.defProp false
attribute [local simp] F6.l6
def JN.cells(b:JN):List (DV×F4):=[(iI b.lo,.val),(iI b.hi,.val),(iN b.why,.val),(iN b.left,.val),(iN b.right,.val),(.str b.name,.val)]
def JN.D9(b:JN):DV:=.agg [iI b.lo,iI b.hi,iN b.why,iN b.left,iN b.right,.str b.name]
structure Kx(X:List Nat)(sg sg':List E5):Prop where
 le:sg.length<=sg'.length
 eq:∀j,j<sg.length->j∉X->sg'[j]?=sg[j]?
variable {X:List Nat}(sg:List E5)
def Kx.refl:Kx X sg sg:=⟨zeq _,λ_ _ _=>rfl⟩
def Kx.trans{x y z:List E5}(h:Kx X x y)(k:Kx X y z):Kx X x z:=⟨zGq h.le k.le,λj hj hx=>(k.eq j (z5q hj h.le) hx).trans (h.eq j hj hx)⟩
def Kx.more{Y:List Nat}{x y:List E5}(h:Kx X x y)(s:∀j∈X,j∈Y):Kx Y x y:=⟨h.le,λj hj hx=>h.eq j hj λg=>hx (s j g)⟩
def Kp.kx{b i:Nat}{x y:List E5}(h:Kp b i x y):Kx [b,i] x y:=⟨h.le,λj hj hx=>by simp only[znq,zhq,or_false,not_or]at hx;exact h.eq j hj hx.1 hx.2⟩
def Kx.set1{k:Nat}(o:E5)(h:k∈X):Kx X sg (sg.set k o):=⟨by simp,λj hj hx=>z2q (by intro e;subst e;exact hx h)⟩
def Kx.app(L:List E5):Kx X sg (sg++L):=⟨by simp,λj hj _=>zaq hj⟩
def VE(b A9 j1 n1 j2 n2:Nat)(P:PS):List (DV×F4):=[(.undef,.ptr b 0),(iN A9,.val),(.list 1 (P.names.map DV.str),.U3 j1 n1 1),(.list 1 (P.nodes.map iN),.U3 j2 n2 1)]++P.bad.cells
structure pR(b i A9 x j1 j2:Nat)(P:PS)(sg:List E5):Prop where
 st:Y5 b i P.s sg
 box:∃n1 n2,H5 sg x=some (VE b A9 j1 n1 j2 n2 P)/\sg[j1]?=some (.U3 n1 1 P.names.length)/\sg[j2]?=some (.U3 n2 1 P.nodes.length)
structure A48(b i x j1 j2:Nat):Prop where
 xx:x≠b/\x≠i
 y1:j1≠b/\j1≠i/\j1≠x
 y2:j2≠b/\j2≠i/\j2≠x/\j2≠j1
section
variable {b i A9 x j1 j2:Nat}{P:PS}{sg:List E5}{sg':List E5}
def Y5.mono{S:E9}(h:Y5 b i S sg)(h1:sg'[b]?=sg[b]?)(h2:sg'[i]?=sg[i]?):Y5 b i S sg':=by obtain⟨ms,v,a⟩:=h;exact⟨ms,v,a.mono h1 h2⟩
def pR.kp{S:E9}(h:pR b i A9 x j1 j2 P sg)(A:A48 b i x j1 j2)(k:Kp b i sg sg')(a:Y5 b i S sg'):pR b i A9 x j1 j2 { P with s:=S } sg':=by obtain⟨n1,n2,c1,c2,c3⟩:=h.box;have l1:=CZ c1;have l2:=(z6q.1 c2).1;have l3:=(z6q.1 c3).1;exact⟨a,n1,n2,by rw[Jo (k.eq x l1 A.xx.1 A.xx.2)];exact c1,by rw[k.eq j1 l2 A.y1.1 A.y1.2.1];exact c2,by rw[k.eq j2 l3 A.y2.1 A.y2.2.1];exact c3⟩
def A47(b i A9 x j1 j2:Nat)(sg:List E5)(r:Option (List DV×List E5))(ds:List DV)(P:PS):Prop:=∃sg',r=some (ds,sg')/\pR b i A9 x j1 j2 P sg'/\Kx [b,i,x,j1,j2] sg sg'
def Kp.k5(h:Kp b i sg sg'):Kx [b,i,x,j1,j2] sg sg':=h.kx.more (by intro j hj;simp only[znq,zhq,or_false]at hj ⊢;omega)
theorem jE(a c d:DV):Q4 0 (.J8 [a,c,d])=some a:=rfl
theorem jF(a c d:DV):Q4 1 (.J8 [a,c,d])=some c:=rfl
theorem jG(a c d:DV):Q4 2 (.J8 [a,c,d])=some d:=rfl
variable (p:F6)
def A66:DV.agg [A8 0 p.D9,A8 1 p.D9,A8 2 p.D9,A8 3 p.D9,A8 4 p.D9,A8 5 p.D9,A8 6 p.D9]=p.D9:=by simp
def A3U(h:pR b i A9 x j1 j2 P sg)(A:A48 b i x j1 j2)(ok:P.s.Ok)(p:F6){m n:Nat}(hm:m<P.s.l.length)(hn:n<P.s.l.length)(hr:(P.agree p.lo p.hi m n).1.s.J6+10<2 ^ 62):
 A47 b i A9 x j1 j2 sg (C8.r Le [(.undef,.ptr x 0),(p.D9,.val),(iN m,.val),(iN n,.val)] sg) [iN (P.agree p.lo p.hi m n).2] (P.agree p.lo p.hi m n).1:=by
 obtain⟨n1,n2,c1,c2,c3⟩:=h.box;have cp:X9 (VE b A9 j1 n1 j2 n2 P) 0=some b:=rfl;obtain⟨K4,e1,a1,k1⟩:=A7D h.st ok hm hn hr;have h1:=h.kp A k1 a1;have start:=(rJ x p.D9 (iN m) (iN n) sg).trans (tK _ _ _ _ _ _);have n0:∀k,D7 .neq (iN k) (iI 0)=some (.bool (!decide (k=0))):=λk=>Xu k 0;have n7:∀k,D7 .neq (iN k) (iI 7)=some (.bool (!decide (k=7))):=λk=>Xu k 7;simp only[Kr,F8,c1,I7,cp,e1,jE,jF,jG,n0,n7,P5,F3,P6]at start;unfold PS.agree;by_cases g:(P.s.agree m n).2.2.2=0
 ·simp only[g,K3,z4q,z1q,G8]at start;refine⟨K4,by rw[start,<- g],?_,k1.k5⟩;rw[A7 (λq=>q.1 g)];exact h1
 ·by_cases g7:(P.s.agree m n).2.2.2=7
  ·simp only[g,g7,K3,z4q,z1q,G8,R8,zcq,F5]at start;refine⟨K4,by rw[start];simp only[g7];rfl,?_,k1.k5⟩;rw[A7 (λq=>q.2 g7)];exact h1
  ·rw[C9 ⟨g,g7⟩];obtain⟨m1,m2,d1,d2,d3⟩:=h1.box;have ln:(VE b A9 j1 m1 j2 m2 P).length=10:=rfl;have d1':H5 K4 x=some (VE b A9 j1 m1 j2 m2 P):=d1;simp only[g,g7,R8,zcq,F5,d1',I7,ln]at start;rw[C9 (by omega)]at start;have lx:=CZ d1
   let B:JN:=⟨p.lo,p.hi,(P.s.agree m n).2.2.2,(P.s.agree m n).2.1,(P.s.agree m n).2.2.1,AO⟩
   refine⟨K4.set x (.box (VE b A9 j1 m1 j2 m2 { P with bad:=B })),by rw[start,F6.EC,F6.DN];rfl,⟨?_,m1,m2,Bj lx _,?_,?_⟩,(k1.k5).trans (Kx.set1 _ _ (by simp))⟩
   ·exact h1.st.mono (z2q A.xx.1) (z2q A.xx.2)
   ·rw[z2q (Ne.symm A.y1.2.2)];exact d2
   ·rw[z2q (Ne.symm A.y2.2.2.1)];exact d3
def oZ(h:pR b i A9 x j1 j2 P sg)(A:A48 b i x j1 j2)(ok:P.s.Ok)(hl:A9<2 ^ 31)(p:F6){n k many:Nat}(hk:k=7/\many=2\/k=8/\many=1)(hn:n<P.s.l.length)(hr:(P.made A9 p.lo p.hi n k many).1.s.J6+10<2 ^ 62):
 A47 b i A9 x j1 j2 sg (C8.r CX [(.undef,.ptr x 0),(p.D9,.val),(iN n,.val),(iN k,.val),(iN many,.val)] sg)
  [.list 1 ((P.made A9 p.lo p.hi n k many).2.1.map iN),iN (P.made A9 p.lo p.hi n k many).2.2.1,iN (P.made A9 p.lo p.hi n k many).2.2.2] (P.made A9 p.lo p.hi n k many).1:=by
 have n0:∀k,D7 .neq (iN k) (iI 0)=some (.bool (!decide (k=0))):=λk=>Xu k 0;have loop:∀(q j:Nat)(out:List Nat)(P:PS)(sg:List E5),j+q=many->out.length=j->pR b i A9 x j1 j2 P sg->P.s.Ok->
  ∃sg',pR b i A9 x j1 j2 { P with s:=(E9.fresh A9 q P.s).1 } sg'/\Kx [b,i,x,j1,j2] sg sg' /\(((E9.fresh A9 q P.s).2.2≠0->Cv C8 x (iN n) (iN k) (iN many) (.list 1 (out.map iN)) (iN many) (iN j) p.D9 sg=some ([.list 1 [],iN 0,iN (E9.fresh A9 q P.s).2.2],sg')) /\((E9.fresh A9 q P.s).2.2=0->Cv C8 x (iN n) (iN k) (iN many) (.list 1 (out.map iN)) (iN many) (iN j) p.D9 sg=Cv C8 x (iN n) (iN k) (iN many) (.list 1 ((out++(E9.fresh A9 q P.s).2.1).map iN)) (iN many) (iN many) p.D9 sg')):=by
  intro q;induction q with
  |zero=>intro j out P sg hj ho h ok;exact⟨sg,h,Kx.refl _,λg=>absurd rfl g,λ_=>by rw[show j=many by omega];simp[E9.fresh]⟩
  |succ q ih=>
    intro j out P sg hj ho h ok;have O8:j<many:=by omega
    obtain⟨n1,n2,c1,c2,c3⟩:=h.box;have cp:X9 (VE b A9 j1 n1 j2 n2 P) 0=some b:=rfl;have cl:U8 (VE b A9 j1 n1 j2 n2 P) 1=some (iN A9):=rfl;obtain⟨K4,e1,a1,k1⟩:=A7G h.st ok A9;obtain⟨o1,o2,o3,o4,-,-⟩:=VN ok hl;have h1:=h.kp A k1 a1;have start:=UU C8 x (iN n) (iN k) (iN many) (.list 1 (out.map iN)) (iN many) (iN j) p.D9 sg;simp only[Af,I7,F3,O8,K3,F5,c1,cp,cl,e1,Od,Oe,n0]at start;rw[E9.fresh];by_cases he:(P.s.var A9).2.2=0
    ·rw[C9 he];simp only[he,K3,z4q,z1q,G8,P6,F8,yx (show out.length<2 ^ 31 by omega),I7,addN (show j<2 ^ 62 by omega)]at start;obtain⟨sg2,b1,b2,b3,b4⟩:=ih (j+1) (out++[(P.s.var A9).2.1]) _ K4 (by omega) (by simp[ho]) h1 o1;refine⟨sg2,b1,k1.k5.trans b2,λg=>start.trans (b3 g),λg=>?_⟩;rw[start.trans (b4 g)];simp
    ·rw[A7 he];simp only[he,R8,zcq,F5]at start;exact⟨K4,h1,k1.k5,λ_=>start,λg=>absurd g he⟩
 obtain⟨K4,h1,k1,b3,b4⟩:=loop many 0 [] P sg (by omega) rfl h ok;have st:C8.r CX [(.undef,.ptr x 0),(p.D9,.val),(iN n,.val),(iN k,.val),(iN many,.val)] sg=Cv C8 x (iN n) (iN k) (iN many) (.list 1 ([].map iN)) (iN many) (iN 0) p.D9 sg:=by refine(tq x p.D9 (iN n) (iN k) (iN many) sg).trans ((wX _ _ _ _ _ _ _).trans ?_);rw[Kr];rfl
 obtain⟨f1,f2,f3,f4,f5,f6⟩:=LJ hl many P.s ok;unfold PS.made at hr ⊢;simp only at hr ⊢;generalize E9.fresh A9 many P.s=q at h1 b3 b4 f1 f2 f3 f4 f5 f6 hr ⊢;by_cases g:q.2.2=0
 ·rw[A7 (λh=>h g)]at hr ⊢;have ql:=f6 g;have p0:∀i,i<many->q.2.1.getD i 0<q.1.l.length:=by intro i hi;rw[zpq,zfq (by omega)];exact f5 _ (z7q (by omega))
  obtain⟨n1,n2,c1,c2,c3⟩:=h1.box;have cp:X9 (VE b A9 j1 n1 j2 n2 { P with s:=q.1 }) 0=some b:=rfl;have st2:=st.trans (b4 g);rw[zrq,UU]at st2;have ix:∀i,i<many->M4 1 (.list 1 (q.2.1.map iN)) (iN i)=some (iN (q.2.1.getD i 0)):=λi hi=>by rw[IE (show i<q.2.1.length by omega),zpq,zfq (by omega)];rfl
  have mz:0<many:=by omega
  have sm:D7 .sub (iN many) (iI 1)=some (iN (many-1)):=by obtain⟨m',rfl⟩:∃m',many=m'+1:=⟨many-1,by omega⟩;rw[B1L (by omega)];rfl
  have ix0:M4 1 (.list 1 (q.2.1.map iN)) (iI 0)=some (iN (q.2.1.getD 0 0)):=ix 0 mz;obtain⟨sg2,e2,a2,k2⟩:=A2R h1.st f1 (k:=k) (x:=q.2.1.getD 0 0) (y:=q.2.1.getD (many-1) 0) (by omega) (p0 0 mz) (λ_=>p0 (many-1) (by omega));simp only[Af,zkq,R8,I7,F3,z1q,G8,c1,cp,ix0,Bf,F8,sm,ix (many-1) (by omega),e2,Od,Oe,n0]at st2;obtain⟨m1,m2,m3,m4,m5,m6⟩:=MW f1 (k:=k) (x:=q.2.1.getD 0 0) (y:=q.2.1.getD (many-1) 0) (by omega) (p0 0 mz) (λ_=>p0 (many-1) (by omega));have h2:=h1.kp A k2 a2;generalize q.1.make k (q.2.1.getD 0 0) (q.2.1.getD (many-1) 0)=z at e2 a2 st2 m1 m2 m3 m4 m5 m6 h2 hr ⊢;by_cases gz:z.2.2=0
  ·rw[A7 (λh=>h gz)]at hr ⊢;simp only[gz,K3,z4q,z1q,G8,F6.pj,F6.l6,F6.ag]at st2;obtain⟨bP,e3,a3,k3⟩:=A3U h2 A m1 p (z5q hn (zGq f2.le m2.le)) m4 hr;refine⟨bP,?_,a3,(k1.trans k2.k5).trans k3⟩;rw[st2,e3];rfl
  ·rw[C9 gz];simp only[gz,R8,zcq,F5]at st2;exact⟨sg2,st2,h2,k1.trans k2.k5⟩
 ·rw[C9 g];exact⟨K4,st.trans (b3 g),h1,k1⟩
def A2p{sg:List E5}{j n:Nat}{ds:List DV}{d:DV}(h:sg[j]?=some (.U3 n 1 ds.length))(hl:ds.length<2 ^ 31):Ro sg j n 1 (.list 1 ds) (.list 1 [d])=some (.list 1 (ds++[d]),sg.set j (.U3 (n+1) 1 (ds.length+1))):=by
 unfold Ro;rw[h];have:Jy 1 (.list 1 ds) (.list 1 [d])=some (ds,[d]):=by simp only[Jy,and_self,true_and,zdq,z8q];rw[C9 ⟨by unfold Q8;omega,by omega⟩]
 simp[this,I7]
theorem B7m{k:Int}(h1:3<=k)(h2:k<=6):C8.p fZ [iI k]=some (iI (k-2)):=by
 refine(A4r _).trans ?_;rw[A5F];have:k=3\/k=4\/k=5\/k=6:=by omega
 rcases this with rfl | rfl | rfl | rfl<;>rfl
end
end Go.Su

/-
 Patterns are put into a store: whole ones.
-/
namespace Go.Su
set_option linter.defProp false
def OB(x:PS)(A9:Nat)(lo hi:Int)(n k many:Nat):(x.made A9 lo hi n k many).1.names=x.names/\(x.made A9 lo hi n k many).1.nodes=x.nodes:=by
 unfold PS.made;simp only
 split
 ·exact⟨rfl,rfl⟩
 ·split<;>exact⟨rfl,rfl⟩
mutual
theorem zu(A9:Nat):∀(p:F6)(nd:Nat)(x:PS),(CP A9 p nd x).1.names.length<=x.names.length+p.size/\(CP A9 p nd x).1.nodes.length<=x.nodes.length+p.size
 |.mk k lo hi name n s ks,nd,x=>by
   have hz:=F6.size_eq (.mk k lo hi name n s ks);rw[F6.S9]at hz;rw[CP];split
   ·exact⟨by simp,by simp⟩
   ·split
    ·simp only[zgq,zdq,z8q];omega
    ·split
     ·obtain⟨m1,m2⟩:=OB x A9 lo hi nd 7 2;split
      ·rw[m1,m2];exact⟨by omega,by omega⟩
      ·have:=zt A9 ks (x.made A9 lo hi nd 7 2).2.1 (x.made A9 lo hi nd 7 2).1;rw[m1,m2]at this;omega
     ·split
      ·obtain⟨m1,m2⟩:=OB x A9 lo hi nd 8 1;split
       ·rw[m1,m2];exact⟨by omega,by omega⟩
       ·have:=zt A9 ks ((x.made A9 lo hi nd 8 1).2.1++[(x.made A9 lo hi nd 8 1).2.2.1]) (x.made A9 lo hi nd 8 1).1;rw[m1,m2]at this;omega
      ·unfold PS.agree;simp only;omega
theorem zt(A9:Nat):∀(ps:List F6)(ns:List Nat)(x:PS),(Fw A9 ps ns x).1.names.length<=x.names.length+(ps.map F6.size).sum/\(Fw A9 ps ns x).1.nodes.length<=x.nodes.length+(ps.map F6.size).sum
 |[],ns,x=>by rw[Fw];simp
 |p::ps,ns,x=>by
   have a:=zu A9 p (ns.headD 0) x;have c:=zt A9 ps ns.tail (CP A9 p (ns.headD 0) x).1;rw[Fw,zJq,y8q];split
   ·omega
   ·omega
end
section
variable {b i A9 x j1 j2:Nat}
def B5Q(l:List F6):N9 (.list 7 (l.map F6.D9))=some (iN l.length):=by simp[iN]
def B5N{l:List F6}{j:Nat}(h:j<l.length):M4 7 (.list 7 (l.map F6.D9)) (iN j)=some l[j].D9:=R7 h
theorem A9J(A9:Nat)(p:F6)(nd:Nat)(x:PS):CP A9 p nd x =
 if p.E8=1 then(x,0)
 else if p.E8=2 then({ x with names:=x.names++[p.name],nodes:=x.nodes++[nd] },0)
 else if p.E8=7 then
  if (x.made A9 p.lo p.hi nd 7 2).2.2.2≠0 then((x.made A9 p.lo p.hi nd 7 2).1,(x.made A9 p.lo p.hi nd 7 2).2.2.2)else Fw A9 p.D5 (x.made A9 p.lo p.hi nd 7 2).2.1 (x.made A9 p.lo p.hi nd 7 2).1
 else if p.E8=8\/p.E8=9 then
  if (x.made A9 p.lo p.hi nd 8 1).2.2.2≠0\/p.E8=8 then((x.made A9 p.lo p.hi nd 8 1).1,(x.made A9 p.lo p.hi nd 8 1).2.2.2)else Fw A9 p.D5 ((x.made A9 p.lo p.hi nd 8 1).2.1++[(x.made A9 p.lo p.hi nd 8 1).2.2.1]) (x.made A9 p.lo p.hi nd 8 1).1
 else x.agree p.lo p.hi nd (p.E8-3).toNat:=by cases p;rw[CP];rfl
def B85(A:A48 b i x j1 j2)(hl:A9<2 ^ 31)(p:F6):p.pat=true->p.size<2 ^ 30->∀(nd:Nat)(P:PS)(sg:List E5),pR b i A9 x j1 j2 P sg->P.s.Ok->nd<P.s.l.length->P.names.length+p.size<2 ^ 31->P.nodes.length+p.size<2 ^ 31->(CP A9 p nd P).1.s.J6+10<2 ^ 62->
 A47 b i A9 x j1 j2 sg (C8.r Hy [(.undef,.ptr x 0),(p.D9,.val),(iN nd,.val)] sg) [iN (CP A9 p nd P).2] (CP A9 p nd P).1:=by
 induction p using F6.ind with
 |h p ih=>
   intro hp hz nd P sg h ok hn f1 f2 hr;have hp':=hp;rw[F6.ut,zMq,List.all_eq_true]at hp';obtain⟨kP,hp2⟩:=hp';obtain⟨RA,Yh⟩:=F6.A2D kP;have Ca:=F6.size_eq p;have start:=(wm x p.D9 (iN nd) sg).trans (zG _ _ _ _ _);have n0:∀k,D7 .neq (iN k) (iI 0)=some (.bool (!decide (k=0))):=λk=>Xu k 0;simp only[Kr,F8,F6.Bh,AV,I7,F3,I4]at start;have key:p.D5.length<=2->∀(q j:Nat)(ns:List Nat)(P:PS)(sg:List E5),j+q=p.D5.length->ns.length=p.D5.length->(∀n∈ns,n<P.s.l.length)->pR b i A9 x j1 j2 P sg->P.s.Ok->P.names.length+((p.D5.drop j).map F6.size).sum<2 ^ 31->P.nodes.length+((p.D5.drop j).map F6.size).sum<2 ^ 31->(Fw A9 (p.D5.drop j) (ns.drop j) P).1.s.J6+10<2 ^ 62->
    A47 b i A9 x j1 j2 sg (Jw C8 x (.list 1 (ns.map iN)) (.list 7 (p.D5.map F6.D9)) (iN p.D5.length) (iN j) sg) [iN (Fw A9 (p.D5.drop j) (ns.drop j) P).2] (Fw A9 (p.D5.drop j) (ns.drop j) P).1:=by
    intro B8d q;induction q with
    |zero=>intro j ns P sg hj kN eD h ok _ _ _;rw[UV,z9q (by omega),Fw];simp only[Af,I7,F3,I4];rw[A7 (by omega)];exact⟨sg,rfl,h,Kx.refl _⟩
    |succ q ihq=>
      intro j ns P sg hj kN eD h ok g1 g2 hr;have O8:j<p.D5.length:=by omega
      have FQ:j<ns.length:=by omega
      have hm:=z7q O8;have ps:=F6.Cy hm;rw[z3q O8,zJq,y8q]at g1 g2;rw[z3q O8,z3q FQ,A2H]at hr ⊢;have hnj:=eD _ (z7q FQ);have G:=eu hl p.D5[j] ns[j] P ok hnj (hp2 _ hm);have L:=zu A9 p.D5[j] ns[j] P;have start:=UV C8 x (.list 1 (ns.map iN)) (.list 7 (p.D5.map F6.D9)) (iN p.D5.length) (iN j) sg;simp only[Af,I7,F3,O8,K3,F5,B5N O8,IE FQ,Bf,F8,F6.pj,F6.l6,F6.ag]at start;by_cases e0:(CP A9 p.D5[j] ns[j] P).2=0
      ·rw[A7 (λh=>h e0)]at hr ⊢;have GL:=TU hl (p.D5.drop (j+1)) (ns.drop (j+1)) _ G.ok (by simp only[zoq];omega) (λn hn=>z5q (eD n (zBq hn)) G.ext.le) λw hw=>hp2 w (zBq hw);have rr:=GL.ext.J6;obtain⟨K4,e1,a1,k1⟩:=ih _ hm (hp2 _ hm) (by omega) ns[j] P sg h ok hnj (by omega) (by omega) (by omega);obtain⟨sg2,e2,a2,k2⟩:=ihq (j+1) ns _ K4 (by omega) kN (λn hn=>z5q (eD n hn) G.ext.le) a1 G.ok (by omega) (by omega) hr;refine⟨sg2,?_,a2,k1.trans k2⟩;rw[start,e1];simp only[I7,z0q,e0,n0,K3,z4q,F3,z1q,G8,addN (show j<2 ^ 62 by omega)]
       exact e2
      ·rw[C9 e0]at hr ⊢;obtain⟨K4,e1,a1,k1⟩:=ih _ hm (hp2 _ hm) (by omega) ns[j] P sg h ok hnj (by omega) (by omega) hr;refine⟨K4,?_,a1,k1⟩;rw[start,e1];simp only[I7,z0q,n0,e0,R8,zcq,F3,F5]
   have twenty:p.D5.length<=2->∀(ns:List Nat)(P:PS)(sg:List E5),ns.length=p.D5.length->(∀n∈ns,n<P.s.l.length)->pR b i A9 x j1 j2 P sg->P.s.Ok->P.names.length+(p.D5.map F6.size).sum<2 ^ 31->P.nodes.length+(p.D5.map F6.size).sum<2 ^ 31->(Fw A9 p.D5 ns P).1.s.J6+10<2 ^ 62->
    A47 b i A9 x j1 j2 sg (Ka C8 x (.list 1 (ns.map iN)) p.D9 sg) [iN (Fw A9 p.D5 ns P).2] (Fw A9 p.D5 ns P).1:=by
    intro B8d ns P sg g1 g2 g3 g4 g5 g6 g7;obtain⟨K4,e1,a1,k1⟩:=key B8d p.D5.length 0 ns P sg (by omega) g1 g2 g3 g4 (by rw[zbq];exact g5) (by rw[zbq];exact g6) (by rw[zbq,zbq];exact g7);rw[zbq,zbq]at e1 a1;refine⟨K4,?_,a1,k1⟩;rw[qp,F6.oH,B5Q,I7];exact e1
   rw[A9J]at hr ⊢;by_cases c1:p.E8=1
   ·rw[C9 c1]at start ⊢;exact⟨sg,start,h,Kx.refl _⟩
   rw[A7 c1]at start hr ⊢;by_cases c2:p.E8=2
   ·rw[C9 c2]at start ⊢;obtain⟨n1,n2,d1,d2,d3⟩:=h.box;have cg1:QX (VE b A9 j1 n1 j2 n2 P) 2 1=some (.list 1 (P.names.map DV.str),j1,n1):=rfl;have cg2:QX (VE b A9 j1 n1 j2 n2 P) 3 1=some (.list 1 (P.nodes.map iN),j2,n2):=rfl;have ga1:=A2p (d:=.str p.name) (ds:=P.names.map DV.str) (by rw[zjq];exact d2) (by rw[zjq];omega);have lx:=CZ d1;have l1:=(z6q.1 d2).1;have l2:=(z6q.1 d3).1;have x1:(sg.set j1 (E5.U3 (n1+1) 1 (P.names.length+1)))[x]?=sg[x]?:=z2q A.y1.2.2;have ga2:=A2p (sg:=sg.set j1 (.U3 (n1+1) 1 (P.names.length+1))) (j:=j2) (n:=n2) (d:=iN nd) (ds:=P.nodes.map iN) (by rw[zjq,z2q (Ne.symm A.y2.2.2.2)];exact d3) (by rw[zjq];omega);rw[zjq]at ga1 ga2;have oe:∀{β : Type}(y:Option β),MZ True y=y:=λy=>by unfold MZ;rw[C9 trivial]
    have b1:H5 (sg.set j1 (E5.U3 (n1+1) 1 (P.names.length+1))) x=some (VE b A9 j1 n1 j2 n2 P):=by rw[Jo x1];exact d1
    have b2:H5 ((sg.set j1 (E5.U3 (n1+1) 1 (P.names.length+1))).set j2 (.U3 (n2+1) 1 (P.nodes.length+1))) x=some (VE b A9 j1 n1 j2 n2 P):=by rw[Cw A.y2.2.2.1];exact b1
    have i2:(VE b A9 j1 n1 j2 n2 P)[2]?=some (.list 1 (P.names.map DV.str),.U3 j1 n1 1):=rfl
    let cs1:=(VE b A9 j1 n1 j2 n2 P).set 2 (.list 1 (P.names.map DV.str++[.str p.name]),.U3 j1 (n1+1) 1)
    have b3:H5 (((sg.set j1 (E5.U3 (n1+1) 1 (P.names.length+1))).set j2 (.U3 (n2+1) 1 (P.nodes.length+1))).set x (.box cs1)) x=some cs1:=Bj (by simpa using lx) _;have i3:cs1[3]?=some (.list 1 (P.nodes.map iN),.U3 j2 n2 1):=rfl
    let P':PS:={ P with names:=P.names++[p.name],nodes:=P.nodes++[nd] }
    have e4:cs1.set 3 (.list 1 (P.nodes.map iN++[iN nd]),.U3 j2 (n2+1) 1)=VE b A9 j1 (n1+1) j2 (n2+1) P':=by simp[cs1,VE,P']
    have b3':H5 (((sg.set j1 (E5.U3 (n1+1) 1 (P.names.length+1))).set j2 (.U3 (n2+1) 1 (P.nodes.length+1))).set x (.box ((VE b A9 j1 n1 j2 n2 P).set 2 (.list 1 (P.names.map DV.str++[.str p.name]),.U3 j1 (n1+1) 1)))) x=some cs1:=b3;simp only[d1,I7,cg1,F6.Lm,Uw,F8,ga1,b1,cg2,x1,oe,P6,ga2,b2,i2,b3',i3,e4]at start;refine⟨_,start,⟨?_,n1+1,n2+1,Bj (by simpa using lx) _,?_,?_⟩,?_⟩
    ·refine h.st.mono ?_ ?_
     ·rw[z2q A.xx.1,z2q A.xx.1,z2q A.y2.1,z2q A.y1.1]
     ·rw[z2q A.xx.2,z2q A.xx.2,z2q A.y2.2.1,z2q A.y1.2.1]
    ·rw[z2q (Ne.symm A.y1.2.2),z2q (Ne.symm A.y1.2.2),z2q A.y2.2.2.2,zFq l1];simp
    ·rw[z2q (Ne.symm A.y2.2.2.1),z2q (Ne.symm A.y2.2.2.1),zFq (by simpa using l2)];simp
    ·exact((Kx.set1 sg _ (by simp)).trans (Kx.set1 _ _ (by simp))).trans ((Kx.set1 _ _ (by simp)).trans (Kx.set1 _ _ (by simp)))
   rw[A7 c2]at start hr ⊢;by_cases c7:p.E8=7
   ·rw[C9 c7]at start hr ⊢;have qU:DV.agg [iI p.E8,A8 1 p.D9,A8 2 p.D9,A8 3 p.D9,A8 4 p.D9,A8 5 p.D9,A8 6 p.D9]=p.D9:=by simp[F6.l6,F6.ag]
    obtain⟨m1,m2,m3,m4⟩:=NK (x:=P) ok hl (lo:=p.lo) (hi:=p.hi) (n:=nd) (k:=7) (many:=2) (.inl ⟨rfl,rfl⟩) hn;obtain⟨mn1,mn2⟩:=OB P A9 p.lo p.hi nd 7 2;by_cases g:(P.made A9 p.lo p.hi nd 7 2).2.2.2=0
    ·rw[A7 (λh=>h g)]at hr ⊢;have kl:=m4 g;have GL:=TU hl p.D5 (P.made A9 p.lo p.hi nd 7 2).2.1 _ m1.ok (by rw[kl,RA (.inl c7)];exact zeq _) m2 hp2;have rr:=GL.ext.J6;obtain⟨K4,e1,a1,k1⟩:=oZ h A ok hl p (k:=7) (many:=2) (.inl ⟨rfl,rfl⟩) hn (by omega);have Ie:C8.r CX [(.undef,.ptr x 0),(p.D9,.val),(iN nd,.val),(iI 7,.val),(iI 2,.val)] sg=_:=e1;simp only[F6.l6,F6.ag,qU,Ie,I7,jE,jF,jG,g,n0,K3,z4q,F3,z1q,G8]at start;obtain⟨sg2,e2,a2,k2⟩:=twenty (by rw[RA (.inl c7)];exact zeq _) _ _ K4 (by rw[kl,RA (.inl c7)]) m2 a1 m1.ok (by rw[mn1];omega) (by rw[mn2];omega) hr;exact⟨sg2,start.trans e2,a2,k1.trans k2⟩
    ·rw[C9 g]at hr ⊢;obtain⟨K4,e1,a1,k1⟩:=oZ h A ok hl p (k:=7) (many:=2) (.inl ⟨rfl,rfl⟩) hn hr;have Ie:C8.r CX [(.undef,.ptr x 0),(p.D9,.val),(iN nd,.val),(iI 7,.val),(iI 2,.val)] sg=_:=e1;simp only[F6.l6,F6.ag,qU,Ie,I7,jE,jF,jG,n0,g,R8,zcq,F3,F5]at start;exact⟨K4,start,a1,k1⟩
   rw[A7 c7]at start hr ⊢;by_cases c89:p.E8=8\/p.E8=9
   ·have start:C8.r Hy [(.undef,.ptr x 0),(p.D9,.val),(iN nd,.val)] sg=KZ C8 x (iN nd) p.D9 sg:=by
     rw[start];split
     ·rfl
     ·rw[C9 (by omega)]
    rw[C9 c89]at hr ⊢;rw[qo]at start;obtain⟨m1,m2,m3,m4⟩:=NK (x:=P) ok hl (lo:=p.lo) (hi:=p.hi) (n:=nd) (k:=8) (many:=1) (.inr ⟨rfl,rfl⟩) hn;obtain⟨mn1,mn2⟩:=OB P A9 p.lo p.hi nd 8 1;have qU:=A66 p;by_cases g:(P.made A9 p.lo p.hi nd 8 1).2.2.2≠0\/p.E8=8
    ·rw[C9 g]at hr ⊢;obtain⟨K4,e1,a1,k1⟩:=oZ h A ok hl p (k:=8) (many:=1) (.inr ⟨rfl,rfl⟩) hn hr;have Ie:C8.r CX [(.undef,.ptr x 0),(p.D9,.val),(iN nd,.val),(iI 8,.val),(iI 1,.val)] sg=_:=e1;simp only[qU]at start;simp only[Ie,I7,jE,jF,jG,n0,P5,F6.Bh,AV,F3,I4]at start;refine⟨K4,start.trans ?_,a1,k1⟩;by_cases g0:(P.made A9 p.lo p.hi nd 8 1).2.2.2=0
     ·have k8:p.E8=8:=by rcases g with g | g;exact absurd g0 g;exact g
      simp[g0,k8]
     ·simp[g0]
    ·rw[A7 g]at hr ⊢;have g0:(P.made A9 p.lo p.hi nd 8 1).2.2.2=0:=Classical.not_not.1 λh=>g (.inl h);have k8:p.E8≠8:=λh=>g (.inr h);have k9:p.E8=9:=by omega
     have kl:=m4 g0;have ml:∀n∈(P.made A9 p.lo p.hi nd 8 1).2.1++[(P.made A9 p.lo p.hi nd 8 1).2.2.1],n<(P.made A9 p.lo p.hi nd 8 1).1.s.l.length:=by
      intro n hn;rcases zzq.1 hn with hn | hn
      ·exact m2 n hn
      ·rw[ziq.1 hn];exact m3
     have GL:=TU hl p.D5 _ _ m1.ok (by rw[zgq,kl,RA (.inr k9)];exact zeq _) ml hp2;have rr:=GL.ext.J6;obtain⟨K4,e1,a1,k1⟩:=oZ h A ok hl p (k:=8) (many:=1) (.inr ⟨rfl,rfl⟩) hn (by omega);have Ie:C8.r CX [(.undef,.ptr x 0),(p.D9,.val),(iN nd,.val),(iI 8,.val),(iI 1,.val)] sg=_:=e1;simp only[qU]at start;simp only[Ie,I7,jE,jF,jG,g0,n0,K3,z4q,P5,z1q,G8,F6.Bh,AV,F3,k8,R8,P6,F8,yx (show(P.made A9 p.lo p.hi nd 8 1).2.1.length<2 ^ 31 by omega)]at start;obtain⟨sg2,e2,a2,k2⟩:=twenty (by rw[RA (.inr k9)];exact zeq _) _ _ K4 (by rw[zgq,kl,RA (.inr k9)];rfl) ml a1 m1.ok (by rw[mn1];omega) (by rw[mn2];omega) hr;exact⟨sg2,start.trans e2,a2,k1.trans k2⟩
   ·rw[A7 (λh=>c89 (.inl h)),A7 (λh=>c89 (.inr h))]at start;rw[A7 c89]at hr ⊢;have sb:D7 .sub (iI (p.E8-2)) (iI 1)=some (iN (p.E8-3).toNat):=by
     rw[IX,Fg (by omega) (by omega)];simp only[iN]
     congr 2;omega
    have f5:=ok.five;obtain⟨K4,e1,a1,k1⟩:=A3U h A ok p (m:=nd) (n:=(p.E8-3).toNat) hn (by omega) hr;have qU:DV.agg [iI p.E8,A8 1 p.D9,A8 2 p.D9,A8 3 p.D9,A8 4 p.D9,A8 5 p.D9,A8 6 p.D9]=p.D9:=by simp[F6.l6,F6.ag]
    simp only[B7m (show 3<=p.E8 by omega) (show p.E8<=6 by omega),I7,sb,F6.l6,F6.ag,qU,e1,z0q]at start;exact⟨K4,start,a1,k1⟩
end
noncomputable def Wx(S:E9)(A9:Nat)(p:F6)(v:Nat):PS×Nat:=CP A9 p v ⟨S,[],[],U1⟩
theorem B7g{b i A9 v:Nat}{S:E9}{sg:List E5}(h:Y5 b i S sg)(ok:S.Ok)(hl:A9<2 ^ 31){p:F6}(hp:p.right=true)(TM:p.thin=true)(hx:p.txt)(hz:p.size<2 ^ 30)(hv:v<S.l.length)(hr:(Wx S A9 p v).1.s.J6+10<2 ^ 62):
 XT b i sg (C8.r fV [(.undef,.ptr b 0),(p.D9,.val),(iN v,.val),(iN A9,.val)] sg)
  (if (Wx S A9 p v).2≠0 then[.list 1 [],.list 1 [],(Wx S A9 p v).1.bad.D9,iN (Wx S A9 p v).2]else[.list 1 ((Wx S A9 p v).1.names.map DV.str),.list 1 ((Wx S A9 p v).1.nodes.map iN),U1.D9,iN 0]) (Wx S A9 p v).1.s:=by
 have hpp:p.pat=true:=by unfold F6.right at hp;rw[zMq]at hp;exact hp.1
 have yM:=h.lt
 let k:=sg.length
 let P0:PS:=⟨S,[],[],U1⟩
 let K4:=sg++[.box (VE b A9 (k+1) 1 (k+2) 1 P0),.U3 1 1 0,.U3 1 1 0]
 have A:A48 b i k (k+1) (k+2):=by constructor<;>omega
 have P1:pR b i A9 k (k+1) (k+2) P0 K4:=⟨h.app _,1,1,by simp[K4,k,H5],by simp[K4,k,zlq];rfl,by simp[K4,k,zlq];rfl⟩;obtain⟨sg2,e2,a2,k2⟩:=B85 A hl p hpp hz v P0 K4 P1 ok hv (by simp only[P0,z8q];omega) (by simp only[P0,z8q];omega) hr;have start:=(A4q b p.D9 (iN v) (iN A9) sg).trans (A5E _ _ _ _ _ _);have qU:=A66 p;have gi:Pe (sg++[E5.box ((.undef,(.ptr b 0))::(iN A9,.val)::((.list 1 []),.full)::((.list 1 []),.full)::(zz4 []))]) sg.length [2,3]=some K4:=by
  have b0:∀(c:List (DV×F4))(L:List E5),H5 (sg++E5.box c::L) sg.length=some c:=λc L=>by simp[H5]
  simp only[Pe,b0,I7];simp only[zPq,zQq,y0q,F5];rw[zIq _ _ (zeq _),zVq,zRq,zSq,List.cons_append,zrq,b0,I7];simp only[List.set_cons_succ,zRq,zPq,zQq,y0q,F5];rw[zIq _ _ (zeq _),zVq,zRq];simp[K4,k,VE,P0,JN.cells,U1,iN];rfl
 simp only[qU]at start;simp only[Kr,F8,bU p TM hx,hp,F5,I7,DX,K3,z4q,P5,z1q,G8,NY h ok hv,z0q,uV,F3,P6,gi]at start;have e2':C8.r Hy [(.undef,.ptr sg.length 0),(p.D9,.val),(iN v,.val)] K4=_:=e2;rw[e2']at start;obtain⟨m1,m2,d1,d2,d3⟩:=a2.box;have d1':H5 sg2 sg.length=_:=d1;have n0:∀k,D7 .neq (iN k) (iI 0)=some (.bool (!decide (k=0))):=λk=>Xu k 0;have KK:Kp b i sg sg2:=⟨by have:=k2.le;simp only[K4,zgq]at this;omega,λj hj h1 h2=>(k2.eq j (by simp[K4];omega) (by simp;omega)).trans (zaq hj)⟩;have hi:CP A9 p v P0=Wx S A9 p v:=rfl;rw[hi]at start d1' a2;simp only[I7,z0q,n0,F3,d1']at start;refine⟨sg2,start.trans ?_,a2.st,KK⟩;by_cases g:(Wx S A9 p v).2=0
 ·simp only[g,K3,z4q,z1q,G8,ne_eq,not_true_eq_false]
  rfl
 ·simp only[g,R8,zcq,F5,ne_eq,not_false_eq_true]
  rfl
end Go.Su

/-
 Inference in memory: the small functions.
-/
namespace Go.Su
set_option linter.defProp false
mutual
def DD.D9:DD->DV
 |.mk n ts vs ks=>.agg [iN n,.list 1 (ts.map iN),.list 1 (vs.map iN),.list 4 (DD.A5u ks)]
def DD.A5u:List DD->List DV
 |[]=>[]
 |k::ks=>DD.D9 k::DD.A5u ks
end
theorem A10:∀ks:List DD,DD.A5u ks=ks.map DD.D9
 |[]=>by simp[DD.A5u]
 |k::ks=>by rw[DD.A5u,A10 ks];rfl
def EN.D9(x:EN):DV:=.agg [.str x.name,iN x.node,.list 1 (x.vars.map iN)]
variable (b:Nat)(w:W)
def qY:List (DV×F4):=(.undef,.ptr b 0)::(w.bad.cells++[(iN w.err,.val)])
structure KE(b i t:Nat)(w:W)(sg:List E5):Prop where
 st:Y5 b i w.s sg
 box:H5 sg t=some (qY b w)
def XW(m1 m2 m3:F4):List (DV×F4):=[(iN 0,.val),(.list 1 (w.types.map iN),m1),(.list 1 (w.vars.map iN),m2),(.list 4 (w.D5.map DD.D9),m3)]
variable (g:Bool)
def DAt(p j:Nat)(w:W)(sg:List E5):Prop:=∃m1 m2 m3,H5 sg p=some (XW w m1 m2 m3)/\(if g=true then ∃n,m1=.U3 j n 1/\sg[j]?=some (.U3 n 1 w.types.length)else(∃n,m1=.U3 j n 1)\/m1=.full)/\(m2=.full\/m2=.val)/\(m3=.full\/m3=.own)
structure Fv(b i t p j:Nat):Prop where
 pp:p≠b/\p≠i/\p≠t
 jj:j≠b/\j≠i/\j≠t/\j≠p
structure Bb(g:Bool)(b i t p j:Nat)(w:W)(sg:List E5):Prop where
 t:KE b i t w sg
 d:DAt g p j w sg
def Tq(b i t p j:Nat)(sg:List E5)(r:Option (List DV×List E5))(ds:List DV)(w:W):Prop:=∃sg',r=some (ds,sg')/\Bb g b i t p j w sg'/\Kx [b,i,t,p,j] sg sg'
def A0j(b i t p j:Nat)(sg:List E5)(r:Option (List DV×List E5))(ds:List DV)(w:W):Prop:=∃sg',r=some (ds,sg')/\Bb g b i t p j w sg'/\Kx [b,i,t] sg sg'
section
variable {g:Bool}{b i t p j:Nat}{w:W}{sg:List E5}
def KE.ne(h:KE b i t w sg):t≠b/\t≠i:=by
 obtain⟨ms,v,a⟩:=h.st;have h1:=WX h.box;have h2:=WX a.box;have h3:=A0a a.Q0;constructor
 ·intro e;rw[e,h2]at h1;simp only[D8,E5.box.injEq]at h1;have:=congrArg List.length h1;simp[qY,Nq,JN.cells]at this
 ·intro e;rw[e,h3]at h1;cases h1
def DAt.lt(h:DAt g p j w sg):p<sg.length:=by obtain⟨m1,m2,m3,a,-⟩:=h;exact CZ a
variable {sg':List E5}
def DAt.kx{w':W}(h:DAt g p j w sg)(A:Fv b i t p j)(k:Kx [b,i,t] sg sg')(e1:w'.types=w.types)(e2:w'.vars=w.vars)(e3:w'.D5=w.D5):DAt g p j w' sg':=by
 have hp:sg'[p]?=sg[p]?:=k.eq p h.lt (by simp;exact A.pp);obtain⟨m1,m2,m3,a,c,d⟩:=h;refine⟨m1,m2,m3,?_,?_,d⟩
 ·rw[Jo hp,a];simp only[XW,e1,e2,e3]
 ·cases g with
  |false=>simpa using c
  |true=>simp only[F5]at c ⊢;obtain⟨n,c1,c2⟩:=c;refine⟨n,c1,?_⟩;rw[k.eq j (z6q.1 c2).1 (by simp;exact⟨A.jj.1,A.jj.2.1,A.jj.2.2.1⟩),e1];exact c2
def EP(k:Kx [b,i,t] sg sg'):Kx [b,i,t,p,j] sg sg':=k.more (by intro x hx;simp only[znq,zhq,or_false]at hx ⊢;omega)
def Kp.k3(k:Kp b i sg sg'):Kx [b,i,t] sg sg':=k.kx.more (by intro x hx;simp only[znq,zhq,or_false]at hx ⊢;omega)
def KE.kp{S:E9}(h:KE b i t w sg)(k:Kp b i sg sg')(a:Y5 b i S sg'):KE b i t { w with s:=S } sg' :=⟨a,by rw[Jo (k.eq t (CZ h.box) h.ne.1 h.ne.2)];exact h.box⟩
theorem B7v(b:Nat)(w:W):U8 (qY b w) 7=some (iN w.err):=rfl
theorem Jd(b:Nat)(w:W):X9 (qY b w) 0=some b:=rfl
def JK(h:KE b i t w sg):C8.r U5 [(.undef,.ptr t 0)] sg=some ([.bool (decide (w.err=0))],sg):=by refine(rG _ _).trans ?_;rw[sw];simp only[h.box,I7,B7v,show(DV.int .i64 0)=iN 0 from rfl,Og]
variable (B:JN)
def B7H:I5 6 B.D9=true/\A8 0 B.D9=.int .i64 B.lo/\A8 1 B.D9=.int .i64 B.hi/\A8 2 B.D9=iN B.why/\A8 3 B.D9=iN B.left/\A8 4 B.D9=iN B.right/\A8 5 B.D9=.str B.name:=⟨rfl,rfl,rfl,rfl,rfl,rfl,rfl⟩
def bS(h:KE b i t w sg)(e:Nat)(B:JN):∃sg',C8.r R6 [(.undef,.ptr t 0),(iN e,.val),(B.D9,.val)] sg=some ([],sg')/\KE b i t (w.fails e B) sg'/\Kx [t] sg sg':=by
 have start:=(gX t (iN e) B.D9 sg).trans (jO _ _ _ _ _);have n0:∀k,D7 .neq (iN k) (iI 0)=some (.bool (!decide (k=0))):=λk=>Xu k 0;have n7:∀k,D7 .neq (iN k) (iI 7)=some (.bool (!decide (k=7))):=λk=>Xu k 7;have c7:(qY b w)[7]?=some (iN w.err,.val):=rfl;obtain⟨b0,b1,b2,b3,b4,b5,b6⟩:=B7H B;simp only[b0,F8,JK h,I7,z0q,P5,I4,n0,F3,h.box,P6,c7,n7]at start;have lt:=CZ h.box;obtain⟨t1,t2⟩:=h.ne;unfold W.fails;by_cases g1:w.err=0
 ·by_cases g2:e=0
  ·rw[A7 (λh=>h.2 g2)];simp only[g1,g2,F5,K3,z4q,z1q,G8]at start;exact⟨sg,by rw[g2];exact start,h,Kx.refl _⟩
  ·rw[C9 ⟨g1,g2⟩];have s1:(qY b w).set 7 (iN e,.val)=qY b { w with err:=e }:=rfl;rw[C9 g1]at start;simp only[g2,R8,zcq,F5,s1,Bj lt,I7]at start;by_cases g3:e=7
   ·simp only[g3,K3,z4q,z1q,G8]at start;refine⟨_,by rw[g3];exact start,⟨h.st.mono (z2q t1) (z2q t2),?_⟩,Kx.set1 _ _ (by simp)⟩;rw[Bj lt];simp[qY,g3]
   ·have ln:(qY b { w with err:=e }).length=8:=rfl;simp only[g3,R8,zcq,F5,ln]at start;rw[C9 (by omega)]at start;refine⟨_,start,⟨?_,?_⟩,(Kx.set1 _ _ (by simp)).trans (Kx.set1 _ _ (by simp))⟩
    ·exact h.st.mono (by rw[z2q t1,z2q t1]) (by rw[z2q t2,z2q t2])
    ·rw[Bj (by simpa using lt),b1,b2,b3,b4,b5,b6];simp[qY,g3,FF,JN.cells]
 ·rw[A7 (λh=>g1 h.1)];rw[A7 g1]at start;exact⟨sg,start,h,Kx.refl _⟩
theorem TR:U1.D9=DV.agg (vV (JU [])):=rfl
theorem after{S:E9}{K4:List E5}(h:Bb g b i t p j w sg)(A:Fv b i t p j)(a:Y5 b i S K4)(k:Kp b i sg K4)(e:Nat)(B:JN):
 ∃sg2,C8.r R6 [(.undef,.ptr t 0),(iN e,.val),(B.D9,.val)] K4=some ([],sg2)/\Bb g b i t p j (({ w with s:=S }:W).fails e B) sg2/\Kx [b,i,t] sg sg2:=by
 obtain⟨sg2,e2,a2,k2⟩:=bS (h.t.kp k a) e B;have k3:Kx [b,i,t] sg sg2:=k.k3.trans (k2.more (by intro x hx;simp only[znq,zhq,or_false]at hx ⊢;omega));refine⟨sg2,e2,⟨a2,h.d.kx A k3 ?_ ?_ ?_⟩,k3⟩<;>unfold W.fails<;>split<;>rfl
def NZ(h:Bb g b i t p j w sg)(A:Fv b i t p j)(ok:w.s.Ok)(A9:Nat):A0j g b i t p j sg (C8.r Z0 [(.undef,.ptr t 0),(iN A9,.val)] sg) [iN (w.fresh A9).2] (w.fresh A9).1:=by
 have start:=(gY t (iN A9) sg).trans (jP _ _ _ _);obtain⟨K4,e1,a1,k1⟩:=A7G h.t.st ok A9;obtain⟨sg2,e2,a2,k2⟩:=after h A a1 k1 (w.s.var A9).2.2 U1;simp only[JK h.t,I7,z0q,U4,F3,h.t.box,Jd,e1,Od,Oe,<- TR,e2]at start;unfold W.fresh;by_cases g1:w.err=0
 ·rw[A7 (λh=>h g1)];simp only[g1,K3,z4q,z1q,G8]at start;exact⟨sg2,start,a2,k2⟩
 ·rw[C9 g1];simp only[g1,R8,zcq,F5]at start;exact⟨sg,start,h,Kx.refl _⟩
def WZ(h:Bb g b i t p j w sg)(A:Fv b i t p j)(ok:w.s.Ok){k x y:Nat}(hk:k=7\/k=8\/k=9)(hx:x<w.s.l.length)(hy:k≠8->y<w.s.l.length):A0j g b i t p j sg (C8.r BK [(.undef,.ptr t 0),(iN k,.val),(iN x,.val),(iN y,.val)] sg) [iN (w.made k x y).2] (w.made k x y).1:=by
 have start:=(jv t (iN k) (iN x) (iN y) sg).trans (mJ _ _ _ _ _ _);obtain⟨K4,e1,a1,k1⟩:=A2R h.t.st ok hk hx hy;obtain⟨sg2,e2,a2,k2⟩:=after h A a1 k1 (w.s.make k x y).2.2 U1;simp only[JK h.t,I7,z0q,U4,F3,h.t.box,Jd,e1,Od,Oe,<- TR,e2]at start;unfold W.made;by_cases g1:w.err=0
 ·rw[A7 (λh=>h g1)];simp only[g1,K3,z4q,z1q,G8]at start;exact⟨sg2,start,a2,k2⟩
 ·rw[C9 g1];simp only[g1,R8,zcq,F5]at start;exact⟨sg,start,h,Kx.refl _⟩
def A2S(h:Bb g b i t p j w sg)(A:Fv b i t p j)(ok:w.s.Ok){y:Ty}(ht:y.rc)(hz:y.size<2 ^ 40)(TM:y.thin=true):A0j g b i t p j sg (C8.r HZ [(.undef,.ptr t 0),(y.D9,.val)] sg) [iN (w.put y).2] (w.put y).1:=by
 have start:=(m_ t y.D9 sg).trans (qf _ _ _ _);obtain⟨K4,e1,a1,k1⟩:=B82 h.t.st ok ht hz TM;obtain⟨sg2,e2,a2,k2⟩:=after h A a1 k1 (w.s.put y).2.2 U1;simp only[Y9,F8,Ty.Bh,Ty.EC,Ty.DN,Ty.l6,Ty.ag,JK h.t,I7,z0q,U4,F3,h.t.box,Jd,e1,Od,Oe,<- TR,e2]at start;unfold W.put;by_cases g1:w.err=0
 ·rw[A7 (λh=>h g1)];simp only[g1,K3,z4q,z1q,G8]at start;exact⟨sg2,start,a2,k2⟩
 ·rw[C9 g1];simp only[g1,R8,zcq,F5]at start;exact⟨sg,start,h,Kx.refl _⟩
def Db(h:Bb g b i t p j w sg)(A:Fv b i t p j)(ok:w.s.Ok){x y:Nat}(hx:x<w.s.l.length)(hy:y<w.s.l.length)(e:Ex)(hr:(w.agree x y e).s.J6+10<2 ^ 62):A0j g b i t p j sg (C8.r R5 [(.undef,.ptr t 0),(iN x,.val),(iN y,.val),(e.D9,.val)] sg) [] (w.agree x y e):=by
 have start:=(gW t (iN x) (iN y) e.D9 sg).trans (jN _ _ _ _ _ _);unfold W.agree at hr ⊢;by_cases g1:w.err=0
 ·rw[A7 (λh=>h g1)]at hr ⊢;rw[AQ]at hr;obtain⟨K4,e1,a1,k1⟩:=A7D h.t.st ok hx hy hr;obtain⟨sg2,e2,a2,k2⟩:=after h A a1 k1 (w.s.agree x y).2.2.2 ⟨e.lo,e.hi,(w.s.agree x y).2.2.2,(w.s.agree x y).2.1,(w.s.agree x y).2.2.1,AO⟩;have be:DV.agg [iI e.lo,iI e.hi,iN (w.s.agree x y).2.2.2,iN (w.s.agree x y).2.1,iN (w.s.agree x y).2.2.1,.str ⟨#[]⟩]=(⟨e.lo,e.hi,(w.s.agree x y).2.2.2,(w.s.agree x y).2.1,(w.s.agree x y).2.2.1,AO⟩:JN).D9:=rfl;simp only[AA,F8,JK h.t,I7,z0q,F3,g1,K3,F5,h.t.box,Jd,e1,jE,jF,jG,P6,Ex.EC,Ex.DN,be,e2]at start;exact⟨sg2,start,a2,k2⟩
 ·rw[C9 g1];simp only[AA,F8,JK h.t,I7,z0q,F3,g1,R8,z1q,G8]at start;exact⟨sg,start,h,Kx.refl _⟩
def A92{q:W×Nat}(h:Bb true b i t p j q.1 sg)(A:Fv b i t p j)(hl:q.1.types.length<2 ^ 30):
 ∃n c,H5 sg p=some c/\QX c 1 1=some (.list 1 (q.1.types.map iN),j,n)/\Ro sg j n 1 (.list 1 (q.1.types.map iN)) (.list 1 [iN q.2])=some (.list 1 (q.1.types.map iN++[iN q.2]),sg.set j (.U3 (n+1) 1 (q.1.types.length+1))) /\
   H5 (sg.set j (.U3 (n+1) 1 (q.1.types.length+1))) p=some c/\(∃u,c[1]?=some u) /\
   Bb true b i t p j (W.tell q).1 ((sg.set j (.U3 (n+1) 1 (q.1.types.length+1))).set p (.box (c.set 1 (.list 1 (q.1.types.map iN++[iN q.2]),.U3 j (n+1) 1)))):=by
 obtain⟨m1,m2,m3,a,c,d⟩:=h.d;simp only[F5]at c;obtain⟨n,rfl,c2⟩:=c;have lp:=CZ a;have lj:=(z6q.1 c2).1;have ga:=A2p (d:=iN q.2) (ds:=q.1.types.map iN) (by rw[zjq];exact c2) (by rw[zjq];omega);rw[zjq]at ga;have ee:(XW q.1 (.U3 j n 1) m2 m3).set 1 (.list 1 (q.1.types.map iN++[iN q.2]),.U3 j (n+1) 1)=XW (W.tell q).1 (.U3 j (n+1) 1) m2 m3:=by simp[XW,W.tell]
 refine⟨n,_,a,rfl,ga,by rw[Cw A.jj.2.2.2];exact a,⟨_,rfl⟩,⟨?_,?_⟩,.U3 j (n+1) 1,m2,m3,by rw[ee];exact Bj (by simpa using lp) _,?_,d⟩
 ·refine h.t.st.mono ?_ ?_
  ·rw[z2q A.pp.1,z2q A.jj.1]
  ·rw[z2q A.pp.2.1,z2q A.jj.2.1]
 ·rw[Cw A.pp.2.2,Cw A.jj.2.2.1];exact h.t.box
 ·simp only[F5]
  have e:(W.tell q).1.types.map iN=q.1.types.map iN++[iN q.2]:=by simp[W.tell]
  refine⟨n+1,rfl,?_⟩;rw[z2q (Ne.symm A.jj.2.2.2),zFq lj];simp[W.tell]
end
end Go.Su

/-
 Inference in memory: parameters, names.
-/
namespace Go.Su
set_option linter.defProp false
def B8v(l:List EN):N9 (.list 3 (l.map EN.D9))=some (iN l.length):=by simp[iN]
variable {l:List EN}
def C0s{j:Nat}(h:j<l.length):M4 3 (.list 3 (l.map EN.D9)) (iN j)=some l[j].D9:=R7 h
def A2W(l k:List EN)(hl:l.length+k.length<2 ^ 31)(sg:List E5):C8.r DT [(.list 3 (l.map EN.D9),.val),(.list 3 (k.map EN.D9),.val)] sg=some ([.list 3 ((l++k).map EN.D9)],sg):=by
 refine(A2f _ _ _).trans ?_;rw[A35];have s3:ZX 3 (.list 3 (l.map EN.D9)) none (iN l.length) (iN l.length)=some (.list 3 (l.map EN.D9)):=by simp only[ZX,iN,F5,Nj,bnd,zjq,I7];rw[C9 (by omega),I7,C9 (by simp)];simp only[Int.toNat_natCast,zbq];rw[zEq (by simp)]
 simp only[B8v,I7,s3];rw[JP (by simp[Q8];omega),I7,y4q]
section
variable {g:Bool}{b i t p j:Nat}{w:W}{sg:List E5}
def A94{sg':List E5}{n m:Nat}{c:List (DV×F4)}:Kx [b,i,t,p,j] sg ((sg.set j (.U3 n 1 m)).set p (.box c)):=(Kx.set1 _ _ (by simp)).trans (Kx.set1 _ _ (by simp))
def A0c(h:Bb true b i t p j w sg)(A:Fv b i t p j)(ok:w.s.Ok){y:Ty}(ht:y.E8≠0->y.rc)(hz:y.size<2 ^ 40)(TM:y.thin=true)(A9:Nat)(hl:w.types.length<2 ^ 30):
 Tq true b i t p j sg (C8.r FK [(.undef,.ptr t 0),(y.D9,.val),(iN A9,.val),(.undef,.ptr p 0)] sg) [iN (w.AP y A9).2] (w.AP y A9).1:=by
 have start:=(gq t y.D9 (iN A9) p sg).trans (jS _ _ _ _ _ _);simp only[Y9,F8,Ty.Bh,Ty.EC,Ty.DN,Ty.l6,Ty.ag,DX,I7,F3]at start;unfold W.AP;by_cases k:y.E8=0
 ·rw[A7 (λh=>h k)];obtain⟨K4,e1,a1,k1⟩:=NZ h A ok A9;have tl:(w.fresh A9).1.types.length<2 ^ 30:=by
   have:(w.fresh A9).1.types=w.types:=by
    unfold W.fresh;split
    ·rfl
    ·rw[Rn]
   rw[this];exact hl
  obtain⟨n,c,x1,x2,x3,x4,⟨u,x5⟩,x6⟩:=A92 (q:=w.fresh A9) a1 A tl;simp only[k,K3,z4q,z1q,G8,e1,I7,z0q,x1,x2,P6,F8,x3,x4,x5]at start;exact⟨_,start,x6,(EP k1).trans (A94 (sg':=sg))⟩
 ·rw[C9 k];obtain⟨K4,e1,a1,k1⟩:=A2S h A ok (ht k) hz TM;simp only[k,R8,zcq,F5,e1,I7,z0q]at start;exact⟨K4,start,a1,EP k1⟩
def A7H(h:Bb g b i t p j w sg)(A:Fv b i t p j)(ok:w.s.Ok)(hr:w.s.J6+1<2 ^ 62){n:Nat}(hn:n<w.s.l.length)(A9:Nat):
 A0j g b i t p j sg (C8.r Ih [(.undef,.ptr t 0),(iN n,.val),(iN A9,.val)] sg) [.list 1 ((w.above n A9).2.map iN)] (w.above n A9).1:=by
 have start:=(gV t (iN n) (iN A9) sg).trans (jM _ _ _ _ _);obtain⟨K4,e1,a1,k1⟩:=A9V h.t.st ok hr hn;have T1:=h.t.kp k1 a1;simp only[h.t.box,I7,Jd,e1,z0q,Sk]at start;have hl:=ok.A2J hn;have hvl:(w.s.vars n).length<2 ^ 31:=y7q (zTq ..) hl;have key:∀(q k:Nat)(o:List Nat),k+q=(w.s.vars n).length->o.length<=k->Dm C8 t (iN A9) (.list 1 (o.map iN)) (.list 1 ((w.s.vars n).map iN)) (iN (w.s.vars n).length) (iN k) K4=some ([.list 1 ((o++((w.s.vars n).drop k).filter λv=>decide (A9<w.s.X4 v)).map iN)],K4):=by
  intro q;induction q with
  |zero=>intro k o hk ho;rw[PR,z9q (by omega)];simp only[Af,I7,F3,I4];rw[A7 (by omega),yeq,y3q]
  |succ q ih=>
    intro k o hk ho;have FR:k<(w.s.vars n).length:=by omega
    have hv:=yfq.1 (z7q FR);have hx:=ok.NL hn hv.1;obtain⟨u,hu,hur,-⟩:=U2.sub (w.s.I8 n) n (ok.I8 hn) ((ok.CS hn).1 hv.1);have rr:w.s.root (w.s.vars n)[k]=(w.s.vars n)[k]:=by rw[hu.GR,hur]
    have h6:w.s.F9 (w.s.vars n)[k]=6:=by simpa using hv.2
    have rt:w.s.tick.root (w.s.vars n)[k]=(w.s.vars n)[k]:=by rw[hu.tick.GR,hur]
    have lv:=A3Q T1.st ok.tick (show(w.s.vars n)[k]<w.s.tick.l.length from hx) (by rw[rt];exact h6);rw[rt]at lv;have ll:w.s.tick.X4 (w.s.vars n)[k]=w.s.X4 (w.s.vars n)[k]:=rfl;rw[PR,z3q FR,zZq];simp only[Af,I7,F3,I4,C9 FR,IE FR,Bf,F8,T1.box,Jd,lv,z0q,ll,yH,P6,addN (show k<2 ^ 62 by omega)]
    by_cases hq:A9<w.s.X4 (w.s.vars n)[k]
    ·rw[C9 hq,yx (show o.length<2 ^ 31 by omega),I7,ih (k+1) _ (by omega) (by simp;omega),C9 hq,zSq];rfl
    ·rw[A7 hq,ih (k+1) _ (by omega) (by omega),A7 hq]
 have:=key (w.s.vars n).length 0 [] (by omega) (by simp);simp only[zqq,zrq,zbq]at this;exact⟨K4,start.trans this,⟨T1,h.d.kx A k1.k3 rfl rfl rfl⟩,k1.k3⟩
def en0(x:EN):A8 0 x.D9=.str x.name/\A8 1 x.D9=iN x.node/\A8 2 x.D9=.list 1 (x.vars.map iN):=⟨rfl,rfl,rfl⟩
def yG(w:W)(A9:Nat):(w.fresh A9).1.types=w.types:=by
 unfold W.fresh;split
 ·rfl
 ·rw[Rn]
def B2T{A9 len:Nat}(hl:A9<2 ^ 31)(GZ:len<2 ^ 29)(A:Fv b i t p j)(x:DV):∀(q k:Nat)(w:W)(sg:List E5),k+q=len->AF w->Bb true b i t p j w sg->w.types.length<2 ^ 29+k->
 ∃sg',Cq C8 t (iN A9) p (iN len) (iN k) x sg=Cq C8 t (iN A9) p (iN len) (iN len) x sg'/\Bb true b i t p j (W.many A9 q w) sg'/\Kx [b,i,t,p,j] sg sg':=by
 intro q;induction q with
 |zero=>intro k w sg hk I h ht;exact⟨sg,by rw[show k=len by omega],h,Kx.refl _⟩
 |succ q ih=>
   intro k w sg hk I h ht;have FR:k<len:=by omega
   obtain⟨K4,e1,a1,k1⟩:=NZ h A I.ok A9;obtain⟨G1,G2⟩:=BM I hl;obtain⟨G3,-⟩:=fJ G1 G2;have tl:=yG w A9;obtain⟨n,c,x1,x2,x3,x4,⟨u,x5⟩,x6⟩:=A92 (q:=w.fresh A9) a1 A (by rw[tl];omega);obtain⟨sg2,y1,y2,y3⟩:=ih (k+1) _ _ (by omega) G3.i x6 (by simp only[W.tell,zgq,tl,zdq,z8q];omega);refine⟨sg2,?_,by rw[W.many];exact y2,((EP k1).trans (A94 (sg':=sg))).trans y3⟩;have qU:K4[p]?=sg[p]?:=k1.eq p h.d.lt (by simp;exact A.pp);have b0:H5 sg p=some c:=by rw[<- Jo qU];exact x1
   have oe:∀{β : Type}(y:Option β),MZ (K4[p]?=sg[p]?) y=y:=λy=>by unfold MZ;rw[C9 qU]
   rw[Qv];simp only[Af,I7,F3,FR,K3,F5,b0,x2,e1,oe,z0q,P6,F8,x3,x4,x5,addN (show k<2 ^ 62 by omega)]
   exact y1
def B7q(h:Bb true b i t p j w sg)(A:Fv b i t p j)(I:AF w){e:Ex}{A9:Nat}(hl:A9<2 ^ 31)(hE:AB w.s.l.length l)(hll:l.length<2 ^ 31)(hv:∀x∈l,x.vars.length<2 ^ 29)(ht:w.types=[])(hr:(w.name e A9 l).1.s.J6+10<2 ^ 62):
 Tq true b i t p j sg (C8.r Jt [(.undef,.ptr t 0),(e.D9,.val),(iN A9,.val),(.list 3 (l.map EN.D9),.val),(.undef,.ptr p 0)] sg) [iN (w.name e A9 l).2] (w.name e A9 l).1:=by
 have st:C8.r Jt [(.undef,.ptr t 0),(e.D9,.val),(iN A9,.val),(.list 3 (l.map EN.D9),.val),(.undef,.ptr p 0)] sg=Bn C8 t (iN A9) (.list 3 (l.map EN.D9)) p (iI ((l.length:Int)-1)) e.D9 sg:=by
  refine(jw t e.D9 (iN A9) (.list 3 (l.map EN.D9)) p sg).trans ((mK _ _ _ _ _ _ _).trans ?_);have:D7 .sub (iN l.length) (iI 1)=some (iI ((l.length:Int)-1)):=by simp only[iN];rw[IX,Fg (by omega) (by omega)]
  simp only[AA,F8,B8v,I7,this]
 have find:∀k,k<=l.length->match (l.take k).reverse.find? λx=>decide (x.name=e.name)with
  |none=>Bn C8 t (iN A9) (.list 3 (l.map EN.D9)) p (iI ((k:Int)-1)) e.D9 sg=Bn C8 t (iN A9) (.list 3 (l.map EN.D9)) p (iI (-1)) e.D9 sg
  |some x=>Bn C8 t (iN A9) (.list 3 (l.map EN.D9)) p (iI ((k:Int)-1)) e.D9 sg=(if x.vars.length=0 then some ([iN x.node],sg)else Cq C8 t (iN A9) p (iN x.vars.length) (iN 0) x.D9 sg):=by
  intro k;induction k with
  |zero=>intro _;rfl
  |succ k ih=>
    intro hk;have FR:k<l.length:=by omega
    have ih:=ih (by omega);rw[zOq FR,List.reverse_append,List.reverse_singleton,List.singleton_append,ygq];have e1:((iI (((k+1:Nat):Int)-1)):DV)=iN k:=by simp only[iN];congr 1;omega
    have e2:D7 .sub (iN k) (iI 1)=some (iI ((k:Int)-1)):=by simp only[iN];rw[IX,Fg (by omega) (by omega)]
    obtain⟨p0,p1,p2⟩:=en0 l[k];have start:=Qu C8 t (iN A9) (.list 3 (l.map EN.D9)) p (iN k) e.D9 sg;have g0:D7 .geq (iN k) (iN 0)=some (.bool true):=B0K k;simp only[B0K,g0,I7,F3,F5,C0s FR,p0,p1,p2,Ex.Lm,S_,Sk,show(DV.int .i64 0)=iN 0 from rfl,Og,I4,e2]at start;by_cases hn:l[k].name=e.name
    ·simp only[hn,K3,z4q,z1q,G8]at start ⊢;rw[e1];exact start
    ·simp only[hn,R8,zcq,F5]at start ⊢;rw[e1,start];exact ih
 have hf:=find l.length (zeq _);rw[ybq]at hf;unfold W.name at hr ⊢;cases hx:l.reverse.find? λx=>decide (x.name=e.name)with
 |none=>rw[hx]at hf;simp only at hf ⊢;have start:=Qu C8 t (iN A9) (.list 3 (l.map EN.D9)) p (iI (-1)) e.D9 sg;obtain⟨K4,e1,a1,k1⟩:=bS h.t 6 ⟨e.lo,e.hi,6,0,0,e.name⟩;have be:DV.agg [iI e.lo,iI e.hi,iI 6,iI 0,iI 0,.str e.name]=(⟨e.lo,e.hi,6,0,0,e.name⟩:JN).D9:=rfl;have Ie:C8.r R6 [(.undef,.ptr t 0),(iI 6,.val),((⟨e.lo,e.hi,6,0,0,e.name⟩:JN).D9,.val)] sg=_:=e1;have gm:D7 .geq (iI (-1)) (iI 0)=some (.bool false):=rfl;simp only[gm,I7,F3,z1q,G8,Ex.EC,Ex.DN,Ex.Lm,Uw,F8,be,Ie]at start;have k3:Kx [b,i,t] sg K4:=k1.more (by intro x hx;simp only[znq,zhq,or_false]at hx ⊢;omega);exact⟨K4,st.trans (hf.trans start),⟨a1,h.d.kx A k3 (by unfold W.fails;split<;>rfl) (by unfold W.fails;split<;>rfl) (by unfold W.fails;split<;>rfl)⟩,EP k3⟩
 |some x=>
   rw[hx]at hf hr;simp only at hf hr ⊢;have hxm:x∈l:=by simpa using List.mem_of_find?_eq_some hx
   obtain⟨q1,q2⟩:=hE x hxm;by_cases Pj:x.vars=[]
   ·rw[C9 Pj]at hr ⊢;rw[C9 (by rw[Pj];rfl)]at hf;exact⟨sg,st.trans hf,h,Kx.refl _⟩
   ·rw[A7 Pj]at hr ⊢;rw[A7 (λg=>Pj (zNq.1 g))]at hf;obtain⟨K4,e1,a1,k1⟩:=B2T hl (hv x hxm) A x.D9 x.vars.length 0 w sg (by omega) I h (by rw[ht];simp);have G:=uX hl x.vars.length I;have mt:=ZJ (A9:=A9) x.vars.length w;generalize W.many A9 x.vars.length w=w1 at a1 G mt hr ⊢;rw[ht,z8q,zHq]at mt;have start:=Qv C8 t (iN A9) p (iN x.vars.length) (iN x.vars.length) x.D9 K4;obtain⟨p0,p1,p2⟩:=en0 x;obtain⟨m1,m2,m3,d1,d2,d3⟩:=a1.d;have cd:U8 (XW w1 m1 m2 m3) 1=some (.list 1 (w1.types.map iN)):=by simp only[F5]at d2;obtain⟨n,rfl,-⟩:=d2;rfl
    simp only[Af,zkq,R8,I7,F3,z1q,G8,JK a1.t,z0q,U4,a1.t.box,Jd,d1,cd,p1,p2]at start;by_cases g1:w1.err=0
    ·rw[A7 (λh=>h g1)]at hr ⊢;have C:=zA G.i.ok (z5q q1 G.ext.le) (from_:=x.vars) (to:=w1.types) (by omega) G.i.ty;rw[AQ]at hr;have rr:=C.2.1.J6;have hr:(w1.s.copy x.node x.vars w1.types).1.J6+10<2 ^ 62:=hr;have hvx:=hv x hxm;obtain⟨sg2,e2,a2,k2⟩:=B7f a1.t.st G.i.ok (by omega) (z5q q1 G.ext.le) (from_:=x.vars) (to:=w1.types) (λf hf=>z5q (q2 f hf) G.ext.le) G.i.ty (by omega) (by omega);obtain⟨bP,e3,a3,k3⟩:=after a1 A a2 k2 (w1.s.copy x.node x.vars w1.types).2.2 U1;simp only[g1,K3,z4q,z1q,G8,e2,I7,Od,Oe,<- TR,e3]at start;exact⟨bP,st.trans (hf.trans (e1.trans start)),a3,k1.trans (EP k3)⟩
    ·rw[C9 g1];simp only[g1,R8,zcq,F5]at start;exact⟨K4,st.trans (hf.trans (e1.trans start)),a1,k1⟩
end
end Go.Su

/-
 Inference in memory: D5; lists, applications, names that are bound.
-/
namespace Go.Su
set_option linter.defProp false
def EV(l:List EN):Prop:=∀x∈l,x.vars.length<2 ^ 29
def EV.app{l k:List EN}(h:EV l)(g:EV k):EV (l++k):=λx hx=>by
 rcases zzq.1 hx with hx | hx
 ·exact h x hx
 ·exact g x hx
def EV.one{s:ByteArray}{m:Nat}:EV [⟨s,m,[]⟩]:=λx hx=>by rw[ziq.1 hx];simp
def RSp(b i t:Nat)(R:Rec)(e:Ex):Prop:=∀(A9:Nat)(l:List EN)(w:W)(sg:List E5),A9+e.size<2 ^ 30->l.length+2 * e.V4<2 ^ 30->AF w->AB w.s.l.length l->EV l->KE b i t w sg->(R e A9 l w).1.s.J6+10<2 ^ 62->∃sg',C8.r B_ [(.undef,.ptr t 0),(e.D9,.val),(iN A9,.val),(.list 3 (l.map EN.D9),.val)] sg=some ([iN (R e A9 l w).2.1,(R e A9 l w).2.2.D9],sg')/\KE b i t (R e A9 l w).1 sg'/\Kx [b,i,t] sg sg'
structure PE(b i t:Nat)(R:Rec)(A9 n:Nat)(k:Ex):Prop where
 good:EX R k
 sp:RSp b i t R k
 sz:A9+k.size<2 ^ 30
 ms:n+2 * k.V4<2 ^ 30
def PE.le{b i t:Nat}{R:Rec}{A9 lev' n n':Nat}{k:Ex}(h:PE b i t R A9 n k)(h1:lev'<=A9)(h2:n'<=n):PE b i t R lev' n' k:=⟨h.good,h.sp,by have:=h.sz;omega,by have:=h.ms;omega⟩
def DD.O4(d:DD):∃a c e f,d.D9=.agg [a,c,e,f]:=by cases d;rw[DD.D9];exact⟨_,_,_,_,rfl⟩
def wB(d:DD):DV.agg [A8 0 d.D9,A8 1 d.D9,A8 2 d.D9,A8 3 d.D9]=d.D9/\I5 4 d.D9=true:=by obtain⟨a,c,e,f,h⟩:=DD.O4 d;rw[h];exact⟨rfl,rfl⟩
def Uv{e:Ex}{j:Nat}(h:j<e.D5.length):M4 16 (A8 15 e.D9) (iN j)=some (e.kd j).D9:=by rw[Ex.A68,<- Ex.kU h];exact R7 h
section
variable {b i t p j:Nat}
def Fb{g:Bool}{w:W}{sg:List E5}{R:Rec}{e:Ex}{idx A9:Nat}{l:List EN}(A:Fv b i t p j)(h:Bb g b i t p j w sg)(I:AF w)(hi:idx<e.D5.length)(K:PE b i t R A9 l.length (e.kd idx))(hE:AB w.s.l.length l)(hV:EV l)(Hf:w.D5.length<2 ^ 30)(hr:(L6 R w (e.kd idx) A9 l).1.s.J6+10<2 ^ 62):
 Tq g b i t p j sg (C8.r O7 [(.undef,.ptr t 0),(e.D9,.val),(iN idx,.val),(iN A9,.val),(.list 3 (l.map EN.D9),.val),(.undef,.ptr p 0)] sg) [iN (L6 R w (e.kd idx) A9 l).2] (L6 R w (e.kd idx) A9 l).1:=by
 have start:=(mq t e.D9 (iN idx) (iN A9) (.list 3 (l.map EN.D9)) p sg).trans (qc _ _ _ _ _ _ _ _);simp only[AA,F8,JK h.t,I7,z0q,U4,F3,Uv hi,Mo]at start;unfold L6 at hr ⊢;by_cases g1:w.err=0
 ·rw[A7 (λh=>h g1)]at hr ⊢;obtain⟨K4,e1,a1,k1⟩:=K.sp A9 l w sg K.sz K.ms I hE hV h.t hr;obtain⟨x1,x2⟩:=wB (R (e.kd idx) A9 l w).2.2;simp only[g1,K3,z4q,z1q,G8,e1,I7,Od,Oe,x1,x2,F8]at start;obtain⟨m1,m2,m3,c1,c2,c3,c4⟩:=h.d;have kp:K4[p]?=sg[p]?:=k1.eq p h.d.lt (by simp;exact A.pp);have d1:H5 K4 p=some (XW w m1 m2 m3):=by rw[Jo kp];exact c1
  have lp:=CZ d1;have co:v_ (XW w m1 m2 m3) 3=some (.list 4 (w.D5.map DD.D9)):=by rcases c4 with rfl | rfl<;>rfl
  generalize R (e.kd idx) A9 l w=q at e1 a1 x1 x2 start ⊢
  let z:DV:=.agg (zz7 [])
  let ks:=w.D5.map DD.D9
  let k:=K4.length
  let v1:=XW w m1 m2 .val
  have s1:(XW w m1 m2 m3).set 3 (.list 4 ks,.val)=v1:=rfl;have ln:(w.D5.map DD.D9).length=w.D5.length:=zjq ..;have dl:N9 (.list 4 ks)=some (iN w.D5.length):=by simp[ks,iN]
  have ap:Jy 4 (.list 4 ks) (.list 4 [z])=some (ks,[z]):=by simp only[Jy,and_self,true_and,ks,zjq,zdq,z8q];rw[C9 ⟨by unfold Q8;omega,by omega⟩]
  let T1:=K4.set p (.box v1)
  have T1l:T1.length=k:=by simp[T1,k]
  let T2:=T1++[E5.opn 4 ks [z]]
  have o2:LB T2 T1.length=some (4,ks,[z]):=by simp[T2,LB]
  have ai:j5 0 (ks.length+1) (iN w.D5.length)=some w.D5.length:=Jh (by simp[ks])
  let T3:=T2.set T1.length (.opn 4 ks [q.2.2.D9])
  have os:Zd (4,ks,[z]) w.D5.length q.2.2.D9=some (.opn 4 ks [q.2.2.D9]):=by simp only[Zd,ks,zjq,zdq,z8q,zVq];rw[C9 (by omega)];rfl
  have pk:p≠T1.length:=by rw[T1l];omega
  have b3:H5 T3 p=some v1:=by rw[Cw (Ne.symm pk)];simp only[T2];unfold H5;rw[zaq (by rw[T1l];exact lp)];exact Bj lp v1
  have v13:v1[3]?=some (.list 4 ks,.val):=rfl
  let v2:=v1.set 3 (.undef,.arr T1.length 4 0 (ks.length+1))
  let T4:=T3.set p (.box v2)
  have lp3:p<T3.length:=CZ b3;have b4:H5 T4 p=some v2:=Bj lp3 v2;have ca:vw v2 3=some (T1.length,4,ks.length+1):=rfl;have lk3:T1.length<T2.length:=by simp[T2]
  have o4:LB T4 T1.length=some (4,ks,[q.2.2.D9]):=by unfold LB;rw[z2q pk,zFq lk3]
  have co2:Sd (4,ks,[q.2.2.D9]) 4 (ks.length+1)=some (.list 4 (ks++[q.2.2.D9])):=by simp only[Sd,zdq,z8q];rw[C9 ⟨trivial,trivial,Nat.succ_pos _⟩]
  simp only[d1,I7,co,dl,ap,zdq,z8q,zHq]at start;have s1':(XW w m1 m2 m3).set 3 (.list 4 (w.D5.map DD.D9),.val)=v1:=rfl;have ap':Jy 4 (.list 4 (w.D5.map DD.D9)) (.list 4 [.agg (zz7 [])])=some (ks,[z]):=ap;have dl':N9 (.list 4 (w.D5.map DD.D9))=some (iN w.D5.length):=dl;simp only[s1',ap',dl',I7,zdq,z8q,zHq,ai]at start;have o2':LB (K4.set p (.box v1)++[E5.opn 4 ks [z]]) (K4.set p (.box v1)).length=some (4,ks,[z]):=o2;simp only[o2',I7,beq_self_eq_true,yjq,F8,os]at start;have b3':H5 ((K4.set p (.box v1)++[E5.opn 4 ks [z]]).set (K4.set p (.box v1)).length (.opn 4 ks [q.2.2.D9])) p=some v1:=b3;simp only[b3',I7,v13]at start;have b4':H5 (((K4.set p (.box v1)++[E5.opn 4 ks [z]]).set (K4.set p (.box v1)).length (.opn 4 ks [q.2.2.D9])).set p (.box (v1.set 3 (.undef,.arr (K4.set p (.box v1)).length 4 0 (ks.length+1))))) p=some v2:=b4;have o4':LB (((K4.set p (.box v1)++[E5.opn 4 ks [z]]).set (K4.set p (.box v1)).length (.opn 4 ks [q.2.2.D9])).set p (.box (v1.set 3 (.undef,.arr (K4.set p (.box v1)).length 4 0 (ks.length+1))))) T1.length=some (4,ks,[q.2.2.D9]):=o4;simp only[b4',I7,ca,o4',co2]at start
  let w':W:={ q.1 with types:=w.types,vars:=w.vars,D5:=w.D5++[q.2.2] }
  have fin:v2.set 3 (.list 4 (ks++[q.2.2.D9]),.own)=XW w' m1 m2 .own:=by simp[v2,v1,XW,ks,w']
  have old:∀x,x<K4.length->x≠p->((T4.set p (.box (v2.set 3 (.list 4 (ks++[q.2.2.D9]),.own)))).set T1.length (.arr 1 []))[x]?=K4[x]?:=by
   intro x hx hp;have hk:T1.length≠x:=by rw[T1l];omega
   rw[z2q hk,z2q (Ne.symm hp),z2q (Ne.symm hp),z2q hk];simp only[T2];rw[zaq (by rw[T1l];exact hx),z2q (Ne.symm hp)]
  have ltb:=a1.st.lt;have ltt:=CZ a1.box;have fl:K4.length<=((T4.set p (.box (v2.set 3 (.list 4 (ks++[q.2.2.D9]),.own)))).set T1.length (.arr 1 [])).length:=by simp only[T4,T3,T2,T1,zLq,zgq];omega
  refine⟨_,start,⟨⟨?_,?_⟩,m1,m2,.own,?_,?_,c3,.inr rfl⟩,?_⟩
  ·exact a1.st.mono (old b ltb.1 (Ne.symm A.pp.1)) (old i ltb.2 (Ne.symm A.pp.2.1))
  ·rw[Jo (old t ltt (Ne.symm A.pp.2.2))];exact a1.box
  ·rw[<- fin,Cw (Ne.symm pk)];exact Bj (by have:=lp3;simp only[T3,T4,zLq]at this ⊢;exact this) _
  ·cases g with
   |false=>simpa using c2
   |true=>simp only[F5]at c2 ⊢;obtain⟨n,n1,n2⟩:=c2;have lj:=(z6q.1 n2).1;refine⟨n,n1,?_⟩;rw[old j (z5q lj k1.le) A.jj.2.2.2,k1.eq j lj (by simp;exact⟨A.jj.1,A.jj.2.1,A.jj.2.2.1⟩)];exact n2
  ·exact(EP k1).trans ⟨fl,λx hx hn=>old x hx λe=>hn (by rw[e];simp)⟩
 ·rw[C9 g1];simp only[g1,R8,zcq,F5]at start;exact⟨sg,start,h,Kx.refl _⟩
end
end Go.Su

/-
 Inference in memory: lists, applications, names that are bound, conditions.
-/
namespace Go.Su
set_option linter.defProp false
variable (w:W)
@[simp] theorem A2u(e:Nat)(B:JN):(w.fails e B).D5=w.D5:=by unfold W.fails;split<;>rfl
variable (A9:Nat)
@[simp] def TN:(w.fresh A9).1.D5=w.D5:=by unfold W.fresh;split<;>simp
@[simp] def kR(k a b:Nat):(w.made k a b).1.D5=w.D5:=by unfold W.made;split<;>simp
@[simp] def B0Z(t:Ty):(w.put t).1.D5=w.D5:=by unfold W.put;split<;>simp
@[simp] def Ga(a b:Nat)(e:Ex):(w.agree a b e).D5=w.D5:=by unfold W.agree;split<;>simp
variable (l:List Nat)
@[simp] theorem kT:(w.Aq l).D5=w.D5:=rfl
@[simp] theorem A1f:(w.ZU l).D5=w.D5:=rfl
@[simp] def kS(t:Ty)(A9:Nat):(w.AP t A9).1.D5=w.D5:=by
  unfold W.AP;split
  ·simp
  ·exact TN w A9
@[simp] theorem wJ(n A9:Nat):(w.above n A9).1.D5=w.D5:=rfl
def SV(R:Rec)(w:W)(e:Ex)(A9:Nat)(l:List EN):(L6 R w e A9 l).1.D5.length<=w.D5.length+1:=by
 unfold L6;split
 ·simp only;omega
 ·simp
section
variable {b i t p j:Nat}{g:Bool}{w:W}{sg:List E5}{R:Rec}{e:Ex}{A9:Nat}{l:List EN}
def fE(h:Bb g b i t p j w sg)(A:Fv b i t p j)(ns:List Nat):∃c u,H5 sg p=some c/\c[1]?=some u/\Bb false b i t p j (w.Aq ns) (sg.set p (.box (c.set 1 (.list 1 (ns.map iN),.full))))/\Kx [b,i,t,p,j] sg (sg.set p (.box (c.set 1 (.list 1 (ns.map iN),.full)))):=by
 obtain⟨m1,m2,m3,c1,c2,c3,c4⟩:=h.d;refine⟨_,_,c1,rfl,⟨⟨?_,?_⟩,.full,m2,m3,?_,?_,c3,c4⟩,Kx.set1 _ _ (by simp)⟩
 ·exact h.t.st.mono (z2q A.pp.1) (z2q A.pp.2.1)
 ·rw[Cw A.pp.2.2];exact h.t.box
 ·exact Bj (CZ c1) _
 ·simp
def A7p(h:Bb g b i t p j w sg)(A:Fv b i t p j)(ns:List Nat):∃c u,H5 sg p=some c/\c[2]?=some u/\Bb g b i t p j (w.ZU ns) (sg.set p (.box (c.set 2 (.list 1 (ns.map iN),.val))))/\Kx [b,i,t,p,j] sg (sg.set p (.box (c.set 2 (.list 1 (ns.map iN),.val)))):=by
 obtain⟨m1,m2,m3,c1,c2,c3,c4⟩:=h.d;refine⟨_,_,c1,rfl,⟨⟨?_,?_⟩,m1,.val,m3,?_,?_,.inr rfl,c4⟩,Kx.set1 _ _ (by simp)⟩
 ·exact h.t.st.mono (z2q A.pp.1) (z2q A.pp.2.1)
 ·rw[Cw A.pp.2.2];exact h.t.box
 ·exact Bj (CZ c1) _
 ·rw[z2q (Ne.symm A.jj.2.2.2)];exact c2
def B7k(A:Fv b i t p j)(h:Bb g b i t p j w sg)(I:AF w)(hk:e.D5.length=2)(K0:PE b i t R A9 l.length (e.kd 0))(K1:PE b i t R A9 l.length (e.kd 1))(hE:AB w.s.l.length l)(hV:EV l)(Hf:w.D5=[])(hr:(QZ R w e A9 l).1.s.J6+10<2 ^ 62):
 Tq false b i t p j sg (C8.r Jr [(.undef,.ptr t 0),(e.D9,.val),(iN A9,.val),(.list 3 (l.map EN.D9),.val),(.undef,.ptr p 0)] sg) [iN (QZ R w e A9 l).2] (QZ R w e A9 l).1:=by
 have start:=(jq t e.D9 (iN A9) (.list 3 (l.map EN.D9)) p sg).trans (mH _ _ _ _ _ _ _);simp only[AA,F8,Mo,Uv (show 0<e.D5.length by omega),Uv (show 1<e.D5.length by omega),show(DV.int .i64 0)=iN 0 from rfl,show(DV.int .i64 1)=iN 1 from rfl,show(DV.int .i64 8)=iN 8 from rfl]at start;obtain⟨a1,a2⟩:=W9 K0.good K0.sz I hE;have ak:=SV R w (e.kd 0) A9 l;have Pa:=Fb (g:=g) A h I (idx:=0) (by omega) K0 hE hV (by rw[Hf];simp);unfold QZ at hr ⊢;simp only at hr ⊢;generalize L6 R w (e.kd 0) A9 l=a at a1 a2 ak Pa hr ⊢;obtain⟨b1,b2⟩:=W9 K1.good K1.sz a1.i (hE.mono a1.ext.le);have Pb:=λsg' (h':Bb g b i t p j a.1 sg')=>Fb (g:=g) A h' a1.i (idx:=1) (by omega) K1 (hE.mono a1.ext.le) hV (by rw[Hf]at ak;simp at ak;omega);generalize L6 R a.1 (e.kd 1) A9 l=q at b1 b2 Pb hr ⊢;have lb:A9<2 ^ 31:=by have:=K0.sz;omega
 obtain⟨v1,v2⟩:=BM b1.i lb;have Pv:=λsg' (h':Bb g b i t p j q.1 sg')=>NZ h' A b1.i.ok A9;generalize q.1.fresh A9=v at v1 v2 Pv hr ⊢;have t1:=JM v1 (l:=[v.2]) (by simpa using v2);have g1:=V8 t1.i (a:=a.2) (b:=v.2) (z5q (b1.lt a2) v1.ext.le) v2 (e.kd 0);have Pg:=λsg' (h':Bb false b i t p j (v.1.Aq [v.2]) sg')=>Db h' A t1.i.ok (x:=a.2) (y:=v.2) (z5q (b1.lt a2) v1.ext.le) v2 (e.kd 0);generalize (v.1.Aq [v.2]).agree a.2 v.2 (e.kd 0)=w1 at g1 Pg hr ⊢;obtain⟨n1,n2⟩:=Fs g1.i (k:=8) (x:=v.2) (y:=0) (.inr (.inl rfl)) (g1.lt v2) (λh=>absurd rfl h);have Pn:=λsg' (h':Bb false b i t p j w1 sg')=>WZ h' A g1.i.ok (k:=8) (x:=v.2) (y:=0) (.inr (.inl rfl)) (g1.lt v2) (λh=>absurd rfl h);generalize w1.made 8 v.2 0=n at n1 n2 Pn hr ⊢;have g2:=V8 n1.i (a:=q.2) (b:=n.2) (n1.lt (g1.lt (v1.lt b2))) n2 (e.kd 1);have r1:=b1.ext.J6;have r2:=v1.ext.J6;have r3:=g1.ext.J6;have r4:=n1.ext.J6;have r5:=g2.ext.J6;have rt:(v.1.Aq [v.2]).s=v.1.s:=rfl;rw[rt]at r3;obtain⟨s1,e1,m1,k1⟩:=Pa (by omega);obtain⟨s2,e2,m2,k2⟩:=Pb s1 m1 (by omega);obtain⟨s3,e3,m3,k3⟩:=Pv s2 m2;obtain⟨c,u,c1,c2,m4,k4⟩:=fE m3 A [v.2];obtain⟨s5,e5,m5,k5⟩:=Pg _ m4 (by omega);obtain⟨s6,e6,m6,k6⟩:=Pn s5 m5;obtain⟨s7,e7,m7,k7⟩:=Db m6 A n1.i.ok (x:=q.2) (y:=n.2) (n1.lt (g1.lt (v1.lt b2))) n2 (e.kd 1) hr;simp only[zJq,zqq]at e5;simp only[e1,I7,z0q,e2,e3,P6,F8,c1,c2,Mo,e5,e6,e7]at start;exact⟨s7,start,m7,(k1.trans k2).trans (((EP k3).trans k4).trans (((EP k5).trans (EP k6)).trans (EP k7)))⟩
def B83(A:Fv b i t p j)(h:Bb g b i t p j w sg)(I:AF w)(hk:e.D5.length=2)(K0:PE b i t R A9 l.length (e.kd 0))(K1:PE b i t R A9 l.length (e.kd 1))(hE:AB w.s.l.length l)(hV:EV l)(Hf:w.D5=[])(hr:(Vx R w e A9 l).1.s.J6+10<2 ^ 62):
 Tq g b i t p j sg (C8.r KR [(.undef,.ptr t 0),(e.D9,.val),(iN A9,.val),(.list 3 (l.map EN.D9),.val),(.undef,.ptr p 0)] sg) [iN (Vx R w e A9 l).2] (Vx R w e A9 l).1:=by
 have start:=(mo t e.D9 (iN A9) (.list 3 (l.map EN.D9)) p sg).trans (qb _ _ _ _ _ _ _);simp only[AA,F8,Mo,Uv (show 0<e.D5.length by omega),Uv (show 1<e.D5.length by omega),show(DV.int .i64 0)=iN 0 from rfl,show(DV.int .i64 1)=iN 1 from rfl,show(DV.int .i64 9)=iN 9 from rfl,show(DV.int .i64 5)=iN 5 from rfl,show(DV.int .i64 6)=iN 6 from rfl,show(DV.int .i64 4)=iN 4 from rfl]at start;obtain⟨a1,a2⟩:=W9 K0.good K0.sz I hE;have ak:=SV R w (e.kd 0) A9 l;have Pa:=Fb (g:=g) A h I (idx:=0) (by omega) K0 hE hV (by rw[Hf];simp);unfold Vx at hr ⊢;simp only at hr ⊢;generalize L6 R w (e.kd 0) A9 l=f at a1 a2 ak Pa hr ⊢;obtain⟨b1,b2⟩:=W9 K1.good K1.sz a1.i (hE.mono a1.ext.le);have Pb:=λsg' (h':Bb g b i t p j f.1 sg')=>Fb (g:=g) A h' a1.i (idx:=1) (by omega) K1 (hE.mono a1.ext.le) hV (by rw[Hf]at ak;simp at ak;omega);generalize L6 R f.1 (e.kd 1) A9 l=a at b1 b2 Pb hr ⊢;have f5:=b1.i.ok.five;have lb:A9<2 ^ 31:=by have:=K0.sz;omega
 have r1:=b1.ext.J6;have fl:=b1.lt a2;have r0:=(A27 (e:=e) lb b1.i fl b2).1.ext.J6;obtain⟨s1,e1,m1,k1⟩:=Pa (by omega);obtain⟨s2,e2,m2,k2⟩:=Pb s1 m1 (by omega);have k2:=k1.trans k2;simp only[e1,I7,z0q,e2,JK m2.t,U4,F3,m2.t.box,Jd,Sq m2.t.st b1.i.ok fl,Og,I4,Mo]at start;unfold gG at hr ⊢;by_cases ge:a.1.err=0;rotate_left
 ·rw[C9 ge]at hr ⊢;simp only[ge,R8,zcq,F5]at start;exact⟨s2,start,m2,k2⟩
 rw[A7 (λh=>h ge)]at hr ⊢;simp only[ge,K3,z4q,z1q,G8]at start;by_cases k5:a.1.s.F9 (a.1.s.root f.2)=5
 ·rw[C9 k5]at hr start ⊢;obtain⟨s3,e3,m3,k3⟩:=Db m2 A b1.i.ok (x:=a.2) (y:=4) b2 (by omega) (e.kd 1) hr;simp only[e3,I7]at start;exact⟨s3,start,m3,k2.trans (EP k3)⟩
 rw[A7 k5]at hr start ⊢;by_cases k6:a.1.s.F9 (a.1.s.root f.2)=6
 ·rw[C9 k6]at hr start ⊢;simp only at hr ⊢;obtain⟨v1,v2⟩:=BM b1.i lb;obtain⟨s3,e3,m3,k3⟩:=NZ m2 A b1.i.ok A9;generalize a.1.fresh A9=v at v1 v2 e3 m3 hr ⊢;obtain⟨u1,u2⟩:=BM v1.i lb;obtain⟨s4,e4,m4,k4⟩:=NZ m3 A v1.i.ok A9;generalize v.1.fresh A9=u at u1 u2 e4 m4 hr ⊢;obtain⟨n1,n2⟩:=Fs u1.i (k:=9) (x:=v.2) (y:=u.2) (.inr (.inr rfl)) (u1.lt v2) (λ_=>u2);obtain⟨s5,e5,m5,k5'⟩:=WZ m4 A u1.i.ok (k:=9) (x:=v.2) (y:=u.2) (.inr (.inr rfl)) (u1.lt v2) (λ_=>u2);generalize u.1.made 9 v.2 u.2=m at n1 n2 e5 m5 hr ⊢;have fm:=n1.lt (u1.lt (v1.lt fl));have g1:=V8 n1.i (a:=f.2) (b:=m.2) fm n2 (e.kd 0);have Pg:=Db m5 A n1.i.ok (x:=f.2) (y:=m.2) fm n2 (e.kd 0);generalize m.1.agree f.2 m.2 (e.kd 0)=w1 at g1 Pg hr ⊢;have am:=g1.lt (n1.lt (u1.lt (v1.lt b2)));have vm:=g1.lt (n1.lt (u1.lt v2));have r6:=(V8 g1.i (a:=a.2) (b:=v.2) am vm (e.kd 1)).ext.J6;obtain⟨s6,e6,m6,k6'⟩:=Pg (by omega);obtain⟨s7,e7,m7,k7⟩:=Db m6 A g1.i.ok (x:=a.2) (y:=v.2) am vm (e.kd 1) hr;simp only[e3,I7,z0q,e4,e5,e6,e7]at start;exact⟨s7,start,m7,(k2.trans (EP k3)).trans (((EP k4).trans (EP k5')).trans ((EP k6').trans (EP k7)))⟩
 rw[A7 k6]at hr start ⊢;by_cases k9:a.1.s.F9 (a.1.s.root f.2)=9
 ·rw[C9 k9]at hr start ⊢;have kn:=b1.i.ok.YM (b1.i.ok.Fu fl);rw[k9]at kn;have kn:(a.1.s.I6 (a.1.s.root f.2)).length=2:=kn;have gd:∀x,x<2->(a.1.s.I6 (a.1.s.root f.2)).getD x 0<a.1.s.l.length/\M4 1 (.list 1 ((a.1.s.I6 (a.1.s.root f.2)).map iN)) (iN x)=some (iN ((a.1.s.I6 (a.1.s.root f.2)).getD x 0)):=by
   intro x hx;have FI:x<(a.1.s.I6 (a.1.s.root f.2)).length:=by omega
   have e0:(a.1.s.I6 (a.1.s.root f.2)).getD x 0=(a.1.s.I6 (a.1.s.root f.2))[x]:=by rw[zpq,zfq FI];rfl
   rw[e0];exact⟨b1.i.ok.Ou fl (z7q FI),IE FI⟩
  have kq:=oW m2.t.st b1.i.ok fl;have m2':Bb g b i t p j a.1 (s2++[.arr 1 []]):=by have kx:Kx [b,i,t] s2 (s2++[.arr 1 []]):=Kx.app _ _;refine⟨⟨m2.t.st.app _,?_⟩,m2.d.kx A kx rfl rfl rfl⟩;unfold H5;rw[zaq (CZ m2.t.box)];exact m2.t.box
  obtain⟨s3,e3,m3,k3⟩:=Db m2' A b1.i.ok (x:=a.2) b2 (gd 0 (by omega)).1 (e.kd 1) hr;simp only[kq,I7,z0q,(gd 0 (by omega)).2,Bf,F8,e3,(gd 1 (by omega)).2]at start;exact⟨s3,start,m3,k2.trans ((Kx.app _ _).trans (EP k3))⟩
 ·rw[A7 k9]at hr start ⊢;obtain⟨s3,e3,a3,k3⟩:=bS m2.t 4 ⟨(e.kd 0).lo,(e.kd 0).hi,4,a.1.s.F9 (a.1.s.root f.2),9,AO⟩;have be:DV.agg [iI (e.kd 0).lo,iI (e.kd 0).hi,iN 4,iN (a.1.s.F9 (a.1.s.root f.2)),iN 9,.str ⟨#[]⟩]=(⟨(e.kd 0).lo,(e.kd 0).hi,4,a.1.s.F9 (a.1.s.root f.2),9,AO⟩:JN).D9:=rfl;simp only[P6,F8,Ex.EC,Ex.DN,be,e3,I7]at start;have k4:Kx [b,i,t] s2 s3:=k3.more (by intro x hx;simp only[znq,zhq,or_false]at hx ⊢;omega);exact⟨s3,start,⟨a3,m2.d.kx A k4 (by unfold W.fails;split<;>rfl) (by unfold W.fails;split<;>rfl) (by unfold W.fails;split<;>rfl)⟩,k2.trans (EP k4)⟩
end
end Go.Su

/-
 Inference in memory: names that are bound, conditions, operators.
-/
namespace Go.Su
set_option linter.defProp false
section
variable {b i t p j:Nat}{g:Bool}{w:W}{sg:List E5}{R:Rec}{e:Ex}{A9:Nat}{l:List EN}(s:ByteArray)
theorem B5G(n:Nat)(vs:List Nat):DV.agg [.str s,iN n,.list 1 (vs.map iN)]=(⟨s,n,vs⟩:EN).D9:=rfl
def A7V(l:List EN)(s:ByteArray)(n:Nat)(vs:List Nat)(hl:l.length<2 ^ 30)(sg:List E5):C8.r DT [(.list 3 (l.map EN.D9),.val),(.list 3 [(⟨s,n,vs⟩:EN).D9],.val)] sg=some ([.list 3 ((l++[(⟨s,n,vs⟩:EN)]).map EN.D9)],sg):=A2W l [⟨s,n,vs⟩] (by simp;omega) sg
def kY(A:Fv b i t p j)(h:Bb g b i t p j w sg)(I:AF w)(hi:1<e.D5.length)(K1:PE b i t R A9 (l.length+1) (e.kd 1))(hE:AB w.s.l.length l)(hV:EV l)(Hf:w.D5.length<2 ^ 30){n:Nat}{vs:List Nat}(hn:n<w.s.l.length)(hv:∀x∈vs,x<w.s.l.length)(hvl:vs.length<2 ^ 29)(hr:(L6 R w (e.kd 1) A9 (l++[⟨e.name,n,vs⟩])).1.s.J6+10<2 ^ 62):
 Tq g b i t p j sg (DF C8 t (iN A9) (.list 3 (l.map EN.D9)) p e.D9 (.str e.name) (iN n) (.list 1 (vs.map iN)) sg) [iN (L6 R w (e.kd 1) A9 (l++[⟨e.name,n,vs⟩])).2] (L6 R w (e.kd 1) A9 (l++[⟨e.name,n,vs⟩])).1 /\
 Tq g b i t p j sg (Ip C8 t (iN A9) (.list 3 (l.map EN.D9)) p e.D9 (.str e.name) (iN n) (.list 1 (vs.map iN)) sg) [iN (L6 R w (e.kd 1) A9 (l++[⟨e.name,n,vs⟩])).2] (L6 R w (e.kd 1) A9 (l++[⟨e.name,n,vs⟩])).1:=by
 have ms:=K1.ms;have wl:=A7V l e.name n vs (by omega) sg;obtain⟨s1,e1,m1,k1⟩:=Fb (idx:=1) A h I hi (l:=l++[⟨e.name,n,vs⟩]) (K1.le (zeq _) (by simp)) (hE.app λx hx=>by rw[ziq.1 hx];exact⟨hn,hv⟩) (hV.app λx hx=>by rw[ziq.1 hx];exact hvl) Hf hr;constructor
 ·refine⟨s1,?_,m1,k1⟩;rw[gN];simp only[B5G,wl,I7,z0q,Mo,show(DV.int .i64 1)=iN 1 from rfl,e1]
 ·refine⟨s1,?_,m1,k1⟩;rw[jT];simp only[B5G,wl,I7,z0q,Mo,show(DV.int .i64 1)=iN 1 from rfl,e1]
def B1P(e:Ex):DV.agg [A8 8 e.D9,A8 9 e.D9,A8 10 e.D9]=e.a.D9/\DV.agg [A8 11 e.D9,A8 12 e.D9,A8 13 e.D9]=e.b.D9:=by simp[Ty.l6,Ty.ag]
def B84(A:Fv b i t p j)(h:Bb g b i t p j w sg)(I:AF w)(hk:e.D5.length=2)(Oq:e.right=true)(BQ:(e.kd 0).fit)(hza:e.a.size<2 ^ 40)(TM:e.a.thin=true)(K0:PE b i t R (A9+1) (l.length+1) (e.kd 0))(K1:PE b i t R A9 (l.length+1) (e.kd 1))(hE:AB w.s.l.length l)(hV:EV l)(Hf:w.D5=[])(hr:(WN R w e A9 l).1.s.J6+10<2 ^ 62):
 Tq g b i t p j sg (C8.r KS [(.undef,.ptr t 0),(e.D9,.val),(iN A9,.val),(.list 3 (l.map EN.D9),.val),(.undef,.ptr p 0)] sg) [iN (WN R w e A9 l).2] (WN R w e A9 l).1:=by
 have start:=(mr t e.D9 (iN A9) (.list 3 (l.map EN.D9)) p sg).trans (qd _ _ _ _ _ _ _);have na:=(Ex.uh Oq).1;have rk:(e.kd 0).right=true:=Ex.ED Oq (Ex.Cg (by omega));have Kz:=K0.le (lev':=A9) (n':=l.length) (by omega) (by omega);have sz0:=K0.sz;have pv:J2 (A8 3 e.D9)=true/\A8 3 e.D9=.str e.name:=⟨by rw[Ex.Lm];rfl,Ex.Lm e⟩;have p8:D7 .neq (A8 8 e.D9) (iN 0)=some (.bool (!decide (e.a.E8=0))):=by rw[Ex.B1l,iN,DX];rfl
 simp only[AA,F8,pv.1,p8,Mo,(B1P e).1,Uv (show 0<e.D5.length by omega),I7,F3,A4M _ BQ,rk,zmq,show(DV.int .i64 0)=iN 0 from rfl,addN (show A9<2 ^ 62 by omega)]at start;rw[pv.2]at start;unfold WN at hr ⊢;by_cases ka:e.a.E8=0
 ·rw[A7 (λh=>h ka)]at hr ⊢;simp only[ka,K3,z4q,z1q,G8]at start;by_cases kv:(e.kd 0).value=true
  ·rw[C9 kv]at hr start ⊢;simp only at hr ⊢;obtain⟨a1,a2⟩:=W9 (w:=w) (l:=l) K0.good K0.sz I hE;have ak:=SV R w (e.kd 0) (A9+1) l;have Pa:=Fb (g:=g) (l:=l) A h I (idx:=0) (by omega) (K0.le (zeq _) (by omega)) hE hV (by rw[Hf];simp);generalize L6 R w (e.kd 0) (A9+1) l=a at a1 a2 ak Pa hr ⊢;rw[Hf]at ak;simp only[z8q]at ak;by_cases ge:a.1.err=0
   ·rw[A7 (λh=>h ge)]at hr ⊢;have rr:=(W9 (R:=R) (A9:=A9) (l:=l++[⟨e.name,a.2,(a.1.above a.2 A9).2⟩]) K1.good K1.sz (Ta (EY a1.i (n:=a.2) (A9:=A9) a2).1 (EY a1.i (n:=a.2) (A9:=A9) a2).2).i ((hE.mono (a1.ext.trans (EY a1.i (n:=a.2) (A9:=A9) a2).1.ext).le).app λx hx=>by rw[ziq.1 hx];exact⟨(EY a1.i (n:=a.2) (A9:=A9) a2).1.lt a2,(EY a1.i (n:=a.2) (A9:=A9) a2).2.1⟩)).1.ext.J6;obtain⟨c1,c2,cl⟩:=EY a1.i (n:=a.2) (A9:=A9) a2;have ra:(a.1.above a.2 A9).1.s.J6=a.1.s.J6+1:=rfl;have rv:((a.1.above a.2 A9).1.ZU (a.1.above a.2 A9).2).s=(a.1.above a.2 A9).1.s:=rfl;rw[rv]at rr;obtain⟨s1,e1,m1,k1⟩:=Pa (by omega);obtain⟨s2,e2,m2,k2⟩:=A7H m1 A a1.i.ok (by omega) a2 A9;obtain⟨c,u,x1,x2,m3,k3⟩:=A7p m2 A (a.1.above a.2 A9).2;have v:=Ta c1 ⟨c2,cl⟩;obtain⟨s4,e4,m4,k4⟩:=(kY (e:=e) (l:=l) A m3 v.i (by omega) K1 (hE.mono (a1.trans v).ext.le) hV (by simp only[A1f,wJ];omega) (v.lt a2) c2 cl hr).1;simp only[e1,I7,z0q,P6,F8,JK m1.t,ge,K3,F3,F5,e2,Wy,x1,x2,e4]at start;exact⟨s4,start,m4,k1.trans ((EP k2).trans (k3.trans k4))⟩
   ·rw[C9 ge]at hr ⊢;have rr:=(W9 (R:=R) (A9:=A9) (l:=l++[⟨e.name,a.2,[]⟩]) K1.good K1.sz a1.i ((hE.mono a1.ext.le).app (AB.one a2))).1.ext.J6;obtain⟨s1,e1,m1,k1⟩:=Pa (by omega);obtain⟨s4,e4,m4,k4⟩:=(kY (e:=e) (l:=l) A m1 a1.i (by omega) K1 (hE.mono a1.ext.le) hV (by omega) a2 (vs:=[]) (by simp) (by simp) hr).1;simp only[zqq]at e4;simp only[e1,I7,z0q,P6,F8,JK m1.t,ge,R8,F3,z1q,G8,e4]at start;exact⟨s4,start,m4,k1.trans k4⟩
  ·rw[A7 kv]at hr ⊢;have kv':(e.kd 0).value=false:=by simpa using kv
   rw[kv']at start;simp only[z1q,G8]at hr start ⊢;obtain⟨a1,a2⟩:=W9 (w:=w) (l:=l) Kz.good Kz.sz I hE;have ak:=SV R w (e.kd 0) A9 l;have Pa:=Fb (g:=g) (l:=l) A h I (idx:=0) (by omega) Kz hE hV (by rw[Hf];simp);generalize L6 R w (e.kd 0) A9 l=a at a1 a2 ak Pa hr ⊢;rw[Hf]at ak;simp only[z8q]at ak;have rr:=(W9 (R:=R) (A9:=A9) (l:=l++[⟨e.name,a.2,[]⟩]) K1.good K1.sz a1.i ((hE.mono a1.ext.le).app (AB.one a2))).1.ext.J6;obtain⟨s1,e1,m1,k1⟩:=Pa (by omega);obtain⟨s4,e4,m4,k4⟩:=(kY (e:=e) (l:=l) A m1 a1.i (by omega) K1 (hE.mono a1.ext.le) hV (by omega) a2 (vs:=[]) (by simp) (by simp) hr).1;simp only[zqq]at e4;simp only[e1,I7,z0q,P6,F8,e4]at start;exact⟨s4,start,m4,k1.trans k4⟩
 ·rw[C9 ka]at hr ⊢;simp only[ka,R8,zcq,F5]at hr start ⊢;obtain⟨a1,a2⟩:=W9 (w:=w) (l:=l) Kz.good Kz.sz I hE;have ak:=SV R w (e.kd 0) A9 l;have Pa:=Fb (g:=g) (l:=l) A h I (idx:=0) (by omega) Kz hE hV (by rw[Hf];simp);generalize L6 R w (e.kd 0) A9 l=a at a1 a2 ak Pa hr ⊢;rw[Hf]at ak;simp only[z8q]at ak;obtain⟨n1,n2⟩:=WR a1.i (na ka);have nk:=B0Z a.1 e.a;have Pn:=λsg' (h':Bb g b i t p j a.1 sg')=>A2S h' A a1.i.ok (na ka) hza TM;generalize a.1.put e.a=n at n1 n2 nk Pn hr ⊢;have g1:=V8 n1.i (a:=a.2) (b:=n.2) (n1.lt a2) n2 (e.kd 0);have gk:=Ga n.1 a.2 n.2 (e.kd 0);have Pg:=λsg' (h':Bb g b i t p j n.1 sg')=>Db h' A n1.i.ok (x:=a.2) (y:=n.2) (n1.lt a2) n2 (e.kd 0);generalize n.1.agree a.2 n.2 (e.kd 0)=w1 at g1 gk Pg hr ⊢;have ag:=(a1.trans n1).trans g1;have rr:=(W9 (R:=R) (A9:=A9) (l:=l++[⟨e.name,n.2,[]⟩]) K1.good K1.sz g1.i ((hE.mono ag.ext.le).app (AB.one (g1.lt n2)))).1.ext.J6;have r1:=n1.ext.J6;have r2:=g1.ext.J6;obtain⟨s1,e1,m1,k1⟩:=Pa (by omega);obtain⟨s2,e2,m2,k2⟩:=Pn s1 m1;obtain⟨s3,e3,m3,k3⟩:=Pg s2 m2 (by omega);obtain⟨s4,e4,m4,k4⟩:=(kY (e:=e) (l:=l) A m3 g1.i (by omega) K1 (hE.mono ag.ext.le) hV (by rw[gk,nk];omega) (g1.lt n2) (vs:=[]) (by simp) (by simp) hr).1;simp only[zqq]at e4;simp only[e1,I7,z0q,P6,F8,e2,e3,e4]at start;exact⟨s4,start,m4,k1.trans ((EP k2).trans ((EP k3).trans k4))⟩
def B87(A:Fv b i t p j)(h:Bb true b i t p j w sg)(I:AF w)(hk:e.D5.length=2)(Oq:e.right=true)(hza:e.a.size<2 ^ 40)(TM:e.a.thin=true)(hzb:e.b.size<2 ^ 40)(C0o:e.b.thin=true)(K0:PE b i t R (A9+1) (l.length+2) (e.kd 0))(K1:PE b i t R A9 (l.length+1) (e.kd 1))(hE:AB w.s.l.length l)(hV:EV l)(Hf:w.D5=[])(htl:w.types=[])(hr:(WS R w e A9 l).1.s.J6+10<2 ^ 62):
 Tq true b i t p j sg (C8.r KT [(.undef,.ptr t 0),(e.D9,.val),(iN A9,.val),(.list 3 (l.map EN.D9),.val),(.undef,.ptr p 0)] sg) [iN (WS R w e A9 l).2] (WS R w e A9 l).1:=by
 have start:=(nA t e.D9 (iN A9) (.list 3 (l.map EN.D9)) p sg).trans (qg _ _ _ _ _ _ _);have na:=(Ex.uh Oq).1;have nb:=Ex.A6Y Oq;have sz0:=K0.sz;have c3:J2 (A8 3 e.D9)=true:=by rw[Ex.Lm];rfl
 have c4:J2 (A8 4 e.D9)=true:=by rw[Ex.fB];rfl
 simp only[AA,F8,c3,c4,Mo,(B1P e).1,(B1P e).2,Uv (show 0<e.D5.length by omega),addN (show A9<2 ^ 62 by omega),I7,show(DV.int .i64 0)=iN 0 from rfl,show(DV.int .i64 9)=iN 9 from rfl]at start;rw[Ex.Lm,Ex.fB]at start;have lb:A9+1<2 ^ 31:=by omega
 unfold WS at hr ⊢;simp only at hr ⊢;obtain⟨p1,p2⟩:=Qg I (A9:=A9+1) na lb;have pk:=kS w e.a (A9+1);have pt:(w.AP e.a (A9+1)).1.types.length<=1:=by
  unfold W.AP;split
  ·unfold W.put;split<;>simp[htl,Rn]
  ·simp[W.tell,yG,htl]
 obtain⟨s1,e1,m1,k1⟩:=A0c h A I.ok na hza TM (A9+1) (by rw[htl];simp);generalize w.AP e.a (A9+1)=pp at p1 p2 pk pt e1 m1 hr ⊢;obtain⟨r1,r2⟩:=Qg p1.i (A9:=A9+1) nb lb;have rk:=kS pp.1 e.b (A9+1);obtain⟨s2,e2,m2,k2⟩:=A0c m1 A p1.i.ok nb hzb C0o (A9+1) (by omega);generalize pp.1.AP e.b (A9+1)=r at r1 r2 rk e2 m2 hr ⊢;obtain⟨f1,f2⟩:=Fs r1.i (k:=9) (x:=pp.2) (y:=r.2) (.inr (.inr rfl)) (r1.lt p2) (λ_=>r2);have fk:=kR r.1 9 pp.2 r.2;obtain⟨s3,e3,m3,k3⟩:=WZ m2 A r1.i.ok (k:=9) (x:=pp.2) (y:=r.2) (.inr (.inr rfl)) (r1.lt p2) (λ_=>r2);generalize r.1.made 9 pp.2 r.2=f at f1 f2 fk e3 m3 hr ⊢;have pf:=(p1.trans r1).trans f1;have hE2:AB f.1.s.l.length (l++[⟨e.name,f.2,[]⟩,⟨e.arg,pp.2,[]⟩]):=(hE.mono pf.ext.le).app λx hx=>by
  simp only[znq,zhq,or_false]at hx;rcases hx with rfl | rfl
  ·exact⟨f2,by simp⟩
  ·exact⟨f1.lt (r1.lt p2),by simp⟩
 have hV2:EV (l++[⟨e.name,f.2,[]⟩,⟨e.arg,pp.2,[]⟩]):=hV.app λx hx=>by simp only[znq,zhq,or_false]at hx;rcases hx with rfl | rfl<;>simp
 obtain⟨b1,b2⟩:=W9 (w:=f.1) (l:=l++[⟨e.name,f.2,[]⟩,⟨e.arg,pp.2,[]⟩]) K0.good K0.sz f1.i hE2;have bk:=SV R f.1 (e.kd 0) (A9+1) (l++[⟨e.name,f.2,[]⟩,⟨e.arg,pp.2,[]⟩]);have k0l:f.1.D5.length=0:=by rw[fk,rk,pk,Hf];rfl
 have Pb:=Fb (l:=l++[⟨e.name,f.2,[]⟩,⟨e.arg,pp.2,[]⟩]) A m3 f1.i (idx:=0) (by omega) (K0.le (zeq _) (by simp)) hE2 hV2 (by omega);generalize L6 R f.1 (e.kd 0) (A9+1) (l++[⟨e.name,f.2,[]⟩,⟨e.arg,pp.2,[]⟩])=q at b1 b2 bk Pb hr ⊢;have g1:=V8 b1.i (a:=q.2) (b:=r.2) b2 (b1.lt (f1.lt r2)) (e.kd 0);have gk:=Ga q.1 q.2 r.2 (e.kd 0);have Pg:=λsg' (h':Bb true b i t p j q.1 sg')=>Db h' A b1.i.ok (x:=q.2) (y:=r.2) b2 (b1.lt (f1.lt r2)) (e.kd 0);generalize q.1.agree q.2 r.2 (e.kd 0)=w1 at g1 gk Pg hr ⊢;have pg:=(pf.trans b1).trans g1;have fl:=g1.lt (b1.lt f2);have ra:=g1.ext.J6;have kw:w1.D5.length<2 ^ 30:=by rw[gk];omega
 have wl:=A2W l [⟨e.name,f.2,[]⟩,⟨e.arg,pp.2,[]⟩] (by have:=K1.ms;simp;omega) s3;have wl':C8.r DT [(.list 3 (l.map EN.D9),.val),(.list 3 [.agg [.str e.name,iN f.2,.list 1 []],.agg [.str e.arg,iN pp.2,.list 1 []]],.val)] s3=_:=wl;by_cases ge:w1.err=0
 ·rw[A7 (λh=>h ge)]at hr ⊢;obtain⟨c1,c2,cl⟩:=EY g1.i (n:=f.2) (A9:=A9) fl;have v:=Ta c1 ⟨c2,cl⟩;have rr:=(W9 (R:=R) (A9:=A9) (l:=l++[⟨e.name,f.2,(w1.above f.2 A9).2⟩]) K1.good K1.sz v.i ((hE.mono (pg.trans v).ext.le).app λx hx=>by rw[ziq.1 hx];exact⟨v.lt fl,c2⟩)).1.ext.J6;have rv:((w1.above f.2 A9).1.ZU (w1.above f.2 A9).2).s.J6=w1.s.J6+1:=rfl;rw[rv]at rr;obtain⟨s4,e4,m4,k4⟩:=Pb (by omega);obtain⟨s5,e5,m5,k5⟩:=Pg s4 m4 (by omega);obtain⟨s6,e6,m6,k6⟩:=A7H m5 A g1.i.ok (by omega) fl A9;obtain⟨c,u,x1,x2,m7,k7⟩:=A7p m6 A (w1.above f.2 A9).2;obtain⟨s8,e8,m8,k8⟩:=(kY (e:=e) (l:=l) A m7 v.i (by omega) K1 (hE.mono (pg.trans v).ext.le) hV (by simp only[A1f,wJ];exact kw) (v.lt fl) c2 cl hr).2;simp only[e1,I7,z0q,e2,e3,P6,F8,wl',e4,e5,JK m5.t,ge,K3,F3,F5,e6,Wy,x1,x2,e8]at start;exact⟨s8,start,m8,(k1.trans k2).trans (((EP k3).trans k4).trans (((EP k5).trans (EP k6)).trans (k7.trans k8)))⟩
 ·rw[C9 ge]at hr ⊢;have rr:=(W9 (R:=R) (A9:=A9) (l:=l++[⟨e.name,f.2,[]⟩]) K1.good K1.sz g1.i ((hE.mono pg.ext.le).app (AB.one fl))).1.ext.J6;obtain⟨s4,e4,m4,k4⟩:=Pb (by omega);obtain⟨s5,e5,m5,k5⟩:=Pg s4 m4 (by omega);obtain⟨s8,e8,m8,k8⟩:=(kY (e:=e) (l:=l) A m5 g1.i (by omega) K1 (hE.mono pg.ext.le) hV kw fl (vs:=[]) (by simp) (by simp) hr).2;simp only[zqq]at e8;simp only[e1,I7,z0q,e2,e3,P6,F8,wl',e4,e5,JK m5.t,ge,R8,F3,z1q,G8,e8]at start;exact⟨s8,start,m8,(k1.trans k2).trans (((EP k3).trans k4).trans ((EP k5).trans k8))⟩
def B7j(A:Fv b i t p j)(h:Bb g b i t p j w sg)(I:AF w)(hk:e.D5.length=3)(K0:PE b i t R A9 l.length (e.kd 0))(K1:PE b i t R A9 l.length (e.kd 1))(K2:PE b i t R A9 l.length (e.kd 2))(hE:AB w.s.l.length l)(hV:EV l)(Hf:w.D5=[])(hr:(QY R w e A9 l).1.s.J6+10<2 ^ 62):
 Tq false b i t p j sg (C8.r Jq [(.undef,.ptr t 0),(e.D9,.val),(iN A9,.val),(.list 3 (l.map EN.D9),.val),(.undef,.ptr p 0)] sg) [iN (QY R w e A9 l).2] (QY R w e A9 l).1:=by
 have start:=(jo t e.D9 (iN A9) (.list 3 (l.map EN.D9)) p sg).trans (mG _ _ _ _ _ _ _);simp only[AA,F8,Mo,show(DV.int .i64 0)=iN 0 from rfl,show(DV.int .i64 1)=iN 1 from rfl,show(DV.int .i64 2)=iN 2 from rfl,Uv (show 0<e.D5.length by omega),Uv (show 1<e.D5.length by omega),Uv (show 2<e.D5.length by omega)]at start;obtain⟨c1,c2⟩:=W9 K0.good K0.sz I hE;have ck:=SV R w (e.kd 0) A9 l;have Pc:=Fb (g:=g) A h I (idx:=0) (by omega) K0 hE hV (by rw[Hf];simp);unfold QY at hr ⊢;simp only at hr ⊢;generalize L6 R w (e.kd 0) A9 l=c at c1 c2 ck Pc hr ⊢;rw[Hf]at ck;simp only[z8q]at ck;have f5:=c1.i.ok.five;have g0:=V8 c1.i (a:=c.2) (b:=1) c2 (by omega) (e.kd 0);have gk:=Ga c.1 c.2 1 (e.kd 0);have P0:=λsg' (h':Bb g b i t p j c.1 sg')=>Db h' A c1.i.ok (x:=c.2) (y:=1) c2 (by omega) (e.kd 0);have cg:=c1.trans g0;generalize c.1.agree c.2 1 (e.kd 0)=w0 at g0 cg gk P0 hr ⊢;obtain⟨a1,a2⟩:=W9 K1.good K1.sz g0.i (hE.mono cg.ext.le);have ak:=SV R w0 (e.kd 1) A9 l;have Pa:=λsg' (h':Bb g b i t p j w0 sg')=>Fb (g:=g) A h' g0.i (idx:=1) (by omega) K1 (hE.mono cg.ext.le) hV (by rw[gk];omega);generalize L6 R w0 (e.kd 1) A9 l=a at a1 a2 ak Pa hr ⊢;have ca:=cg.trans a1;obtain⟨b1,b2⟩:=W9 K2.good K2.sz a1.i (hE.mono ca.ext.le);have Pb:=λsg' (h':Bb g b i t p j a.1 sg')=>Fb (g:=g) A h' a1.i (idx:=2) (by omega) K2 (hE.mono ca.ext.le) hV (by rw[gk]at ak;omega);generalize L6 R a.1 (e.kd 2) A9 l=q at b1 b2 Pb hr ⊢;have lb:A9<2 ^ 31:=by have:=K0.sz;omega
 obtain⟨v1,v2⟩:=BM b1.i lb;have Pv:=λsg' (h':Bb g b i t p j q.1 sg')=>NZ h' A b1.i.ok A9;generalize q.1.fresh A9=v at v1 v2 Pv hr ⊢;have t1:=JM v1 (l:=[v.2]) (by simpa using v2);have av:=v1.lt (b1.lt a2);have g1:=V8 t1.i (a:=a.2) (b:=v.2) av v2 (e.kd 1);have Pg:=λsg' (h':Bb false b i t p j (v.1.Aq [v.2]) sg')=>Db h' A t1.i.ok (x:=a.2) (y:=v.2) av v2 (e.kd 1);generalize (v.1.Aq [v.2]).agree a.2 v.2 (e.kd 1)=w1 at g1 Pg hr ⊢;have bv:=g1.lt (v1.lt b2);have g2:=V8 g1.i (a:=q.2) (b:=v.2) bv (g1.lt v2) (e.kd 2);have r0:=g0.ext.J6;have ra:=a1.ext.J6;have rb:=b1.ext.J6;have rv:=v1.ext.J6;have r1:=g1.ext.J6;have r2:=g2.ext.J6;have rt:(v.1.Aq [v.2]).s=v.1.s:=rfl;rw[rt]at r1;have hr:(w1.agree q.2 v.2 (e.kd 2)).s.J6+10<2 ^ 62:=hr;obtain⟨s1,e1,m1,k1⟩:=Pc (by omega);obtain⟨s2,e2,m2,k2⟩:=P0 s1 m1 (by omega);obtain⟨s3,e3,m3,k3⟩:=Pa s2 m2 (by omega);obtain⟨s4,e4,m4,k4⟩:=Pb s3 m3 (by omega);obtain⟨s5,e5,m5,k5⟩:=Pv s4 m4;obtain⟨cc,u,x1,x2,m6,k6⟩:=fE m5 A [v.2];obtain⟨s7,e7,m7,k7⟩:=Pg _ m6 (by omega);obtain⟨s8,e8,m8,k8⟩:=Db m7 A g1.i.ok (x:=q.2) (y:=v.2) bv (g1.lt v2) (e.kd 2) hr;simp only[zJq,zqq]at e7;simp only[e1,I7,z0q,Mo,e2,e3,e4,e5,P6,F8,x1,x2,e7,e8]at start;exact⟨s8,start,m8,(k1.trans (EP k2)).trans ((k3.trans k4).trans (((EP k5).trans k6).trans ((EP k7).trans (EP k8))))⟩
end
end Go.Su

/-
 Inference in memory: matches, operators.
-/
namespace Go.Su
set_option linter.defProp false
section
variable {b i t p j:Nat}{g:Bool}{R:Rec}{e:Ex}{A9:Nat}{l:List EN}
def KE.into{w:W}{sg K4:List E5}{S:E9}(h:Bb g b i t p j w sg)(A:Fv b i t p j)(k:Kp b i sg K4)(a:Y5 b i S K4):Bb g b i t p j { w with s:=S } K4:=⟨h.t.kp k a,h.d.kx A k.k3 rfl rfl rfl⟩
def B3w{w:W}{sg:List E5}(h:Bb g b i t p j w sg)(A:Fv b i t p j)(e:Nat)(B:JN):∃sg',C8.r R6 [(.undef,.ptr t 0),(iN e,.val),(B.D9,.val)] sg=some ([],sg')/\Bb g b i t p j (w.fails e B) sg'/\Kx [b,i,t] sg sg':=by obtain⟨s3,e3,a3,k3⟩:=bS h.t e B;have k4:Kx [b,i,t] sg s3:=k3.more (by intro x hx;simp only[znq,zhq,or_false]at hx ⊢;omega);exact⟨s3,e3,⟨a3,h.d.kx A k4 (by unfold W.fails;split<;>rfl) (by unfold W.fails;split<;>rfl) (by unfold W.fails;split<;>rfl)⟩,k4⟩
def A0E(B:JN):DV.agg [A8 0 B.D9,A8 1 B.D9,A8 2 B.D9,A8 3 B.D9,A8 4 B.D9,A8 5 B.D9]=B.D9/\I5 6 B.D9=true:=⟨rfl,rfl⟩
theorem B6C{v r x:Nat}{pl:DV}{nn:Nat}(names:List ByteArray)(nodes:List Nat)(hl:names.length<=nodes.length)(hn:names.length+l.length<2 ^ 30)(sg:List E5):∀(q m:Nat)(o:List EN),m+q=names.length->o.length<=l.length+m->
 CF C8 t (iN A9) (.list 3 (l.map EN.D9)) p (iN v) (iN r) (iN x) (.list 1 (nodes.map iN)) (.list 3 (o.map EN.D9)) pl (iN nn) (iN x) (.list 1 (names.map DV.str)) (iN names.length) (iN m) e.D9 sg =
 CF C8 t (iN A9) (.list 3 (l.map EN.D9)) p (iN v) (iN r) (iN x) (.list 1 (nodes.map iN)) (.list 3 ((o++List.zipWith (λs n=>(⟨s,n,[]⟩:EN)) (names.drop m) (nodes.drop m)).map EN.D9)) pl (iN nn) (iN x) (.list 1 (names.map DV.str)) (iN names.length) (iN names.length) e.D9 sg:=by
 intro q;induction q with
 |zero=>intro m o hm ho;rw[z9q (by omega),show m=names.length by omega];simp
 |succ q ih=>
   intro m o hm ho;have Rq:m<names.length:=by omega
   have kM:m<nodes.length:=by omega
   rw[Ir,z3q Rq,z3q kM,List.zipWith_cons_cons];have i1:M4 1 (.list 1 (names.map DV.str)) (iN m)=some (.str names[m]):=R7 Rq;have ap:Di 3 (.list 3 (o.map EN.D9)) (.list 3 [.agg [.str names[m],iN nodes[m],.list 1 []]])=some (.list 3 ((o++[(⟨names[m],nodes[m],[]⟩:EN)]).map EN.D9)):=by rw[JP (by simp[Q8];omega)];simp[EN.D9]
   simp only[Af,I7,F3,Rq,K3,F5,i1,B0Y,IE kM,Bf,Uw,P6,F8,ap,addN (show m<2 ^ 62 by omega)]
   rw[ih (m+1) _ (by omega) (by simp;omega),zSq];rfl
def B4U(A9:Nat):∀(pt:F6)(nd:Nat)(x:PS),x.names.length=x.nodes.length->(CP A9 pt nd x).1.names.length=(CP A9 pt nd x).1.nodes.length:=by
 have key:∀(pt:F6),(∀(nd:Nat)(x:PS),x.names.length=x.nodes.length->(CP A9 pt nd x).1.names.length=(CP A9 pt nd x).1.nodes.length):=by
  intro pt;induction pt using F6.ind with
  |h pt ih=>
    have D5:∀(ps:List F6),(∀q∈ps,q∈pt.D5)->∀(ns:List Nat)(x:PS),x.names.length=x.nodes.length->(Fw A9 ps ns x).1.names.length=(Fw A9 ps ns x).1.nodes.length:=by
     intro ps;induction ps with
     |nil=>intro _ ns x hx;rw[Fw];exact hx
     |cons q ps ihp=>
       intro hs ns x hx;have a:=ih q (hs q (zAq ..)) (ns.headD 0) x hx;rw[Fw];split
       ·exact a
       ·exact ihp (λw hw=>hs w (zsq _ hw)) ns.tail _ a
    intro nd x hx;rw[A9J];split
    ·exact hx
    ·split
     ·simp[hx]
     ·split
      ·obtain⟨m1,m2⟩:=OB x A9 pt.lo pt.hi nd 7 2;split
       ·rw[m1,m2];exact hx
       ·exact D5 _ (λq hq=>hq) _ _ (by rw[m1,m2];exact hx)
      ·split
       ·obtain⟨m1,m2⟩:=OB x A9 pt.lo pt.hi nd 8 1;split
        ·rw[m1,m2];exact hx
        ·exact D5 _ (λq hq=>hq) _ _ (by rw[m1,m2];exact hx)
       ·exact hx
 exact key
def B09(A:Fv b i t p j)(B8g:A9<2 ^ 30)(hk:e.D5.length=e.J7.length+1)(hK:∀x (hx:x<e.J7.length),PE b i t R A9 (l.length+e.J7[x].size) (e.kd (x+1)))(hP:∀q∈e.J7,q.right=true/\q.thin=true/\q.txt/\q.size<2 ^ 29)(Ut:e.J7.length<2 ^ 29){v r:Nat}(hV:EV l)(hll:l.length<2 ^ 30):∀(q x:Nat)(w:W)(sg:List E5),x+q=e.J7.length->Bb false b i t p j w sg->AF w->AB w.s.l.length l->v<w.s.l.length->r<w.s.l.length->w.D5.length<=x+1->(E_ R A9 l v r ((e.J7.zip e.D5.tail).drop x) w).1.s.J6+10<2 ^ 62->
 Tq false b i t p j sg (Dn C8 t (iN A9) (.list 3 (l.map EN.D9)) p (iN v) (iN r) (.list 7 (e.J7.map F6.D9)) (iN e.J7.length) (iN x) e.D9 sg) [iN (E_ R A9 l v r ((e.J7.zip e.D5.tail).drop x) w).2] (E_ R A9 l v r ((e.J7.zip e.D5.tail).drop x) w).1:=by
 have zl:(e.J7.zip e.D5.tail).length=e.J7.length:=by rw[y5q,ydq,hk];simp
 intro q;induction q with
 |zero=>intro x w sg hx h I hE hv Ab Hf hr;rw[z9q (by omega),E_,PT];simp only[Af,I7,F3,I4];rw[A7 (by omega)];exact⟨sg,rfl,h,Kx.refl _⟩
 |succ q ih=>
   intro x w sg hx h I hE hv Ab Hf hr;have FI:x<e.J7.length:=by omega
   have hz:x<(e.J7.zip e.D5.tail).length:=by omega
   have ez:(e.J7.zip e.D5.tail)[x]=(e.J7[x],e.kd (x+1)):=by rw[y1q];congr 1;rw[zYq,Ex.kU]
   rw[z3q hz,ez,E_]at hr ⊢;obtain⟨P1,P2,P3,P4⟩:=hP _ (z7q FI);have K:=hK x FI;have start:=PT C8 t (iN A9) (.list 3 (l.map EN.D9)) p (iN v) (iN r) (.list 7 (e.J7.map F6.D9)) (iN e.J7.length) (iN x) e.D9 sg;simp only[Af,I7,F3,FI,K3,F5,B5N FI,JK h.t,z0q,U4,h.t.box,Jd,A66]at start;by_cases ge:w.err=0;rotate_left
   ·rw[C9 ge]at hr ⊢;simp only[ge,R8,zcq,F5]at start;exact⟨sg,start,h,Kx.refl _⟩
   rw[A7 (λh=>h ge)]at hr ⊢;simp only[ge,K3,z4q,z1q,G8]at start;simp only at hr ⊢;have hpp:e.J7[x].pat=true:=by unfold F6.right at P1;rw[zMq]at P1;exact P1.1
   have G:=eu (A9:=A9) (by omega) e.J7[x] v ⟨w.s,[],[],U1⟩ I.ok hv hpp;have L:=zu A9 e.J7[x] v ⟨w.s,[],[],U1⟩;have N:=B4U A9 e.J7[x] v ⟨w.s,[],[],U1⟩ rfl;have PI:=λhh=>B7g h.t.st I.ok (A9:=A9) (by omega) P1 P2 P3 (by omega) hv hh;have hint:Wx w.s A9 e.J7[x] v=CP A9 e.J7[x] v ⟨w.s,[],[],U1⟩:=rfl;rw[hint]at PI;generalize CP A9 e.J7[x] v ⟨w.s,[],[],U1⟩=z at G L N PI hr ⊢;simp only[z8q,zHq]at L;have g0:Good w ({ w with s:=z.1.s }:W):=I.s (w':={ w with s:=z.1.s }) G.ok G.ext rfl rfl rfl;have g1:=g0.fails z.2 z.1.bad;have hs:(({ w with s:=z.1.s }:W).fails z.2 z.1.bad).s=z.1.s:=AQ ..;have Lc:(({ w with s:=z.1.s }:W).fails z.2 z.1.bad).D5=w.D5:=A2u ..
   let inn:List EN:=if z.2≠0 then[]else List.zipWith (λs n=>(⟨s,n,[]⟩:EN)) z.1.names z.1.nodes
   have hE2:AB (({ w with s:=z.1.s }:W).fails z.2 z.1.bad).s.l.length (l++inn):=by
    refine(hE.mono g1.ext.le).app ?_;simp only[inn]
    split
    ·intro y hy;cases hy
    ·intro y hy;obtain⟨m,hm,rfl⟩:=zCq.1 hy;simp only[zDq]at hm;rw[y6q];exact⟨by rw[hs];exact G.nd (by simp) _ (z7q (by omega)),by simp⟩
   have hV2:EV (l++inn):=hV.app λy hy=>by
    simp only[inn]at hy;split at hy
    ·cases hy
    ·obtain⟨m,hm,rfl⟩:=zCq.1 hy;rw[y6q];simp
   have hil:inn.length<=e.J7[x].size:=by
    simp only[inn]
    split
    ·simp
    ·rw[zDq];omega
   have C0d:(l++if z.2≠0 then[]else List.zipWith (λs n=>(⟨s,n,[]⟩:EN)) z.1.names z.1.nodes)=l++inn:=rfl;have C0U:∀(c:W×Nat),L6 R c.1 (e.kd (x+1)) A9 (l++if z.2≠0 then[]else List.zipWith (λs n=>(⟨s,n,[]⟩:EN)) z.1.names z.1.nodes)=L6 R c.1 (e.kd (x+1)) A9 (l++inn):=λ_=>rfl;rw[C0d]at hr ⊢;generalize hw1:({ w with s:=z.1.s }:W).fails z.2 z.1.bad=w1 at g1 hs Lc hE2 hr ⊢;have Kl:=K.le (lev':=A9) (n':=(l++inn).length) (zeq _) (by rw[zgq];omega);obtain⟨b1,b2⟩:=W9 (l:=l++inn) Kl.good Kl.sz g1.i hE2;have bk:=SV R w1 (e.kd (x+1)) A9 (l++inn);have Pk:=λsg' (h':Bb false b i t p j w1 sg')=>Fb (l:=l++inn) (e:=e) (idx:=x+1) A h' g1.i (by omega) Kl hE2 hV2 (by rw[Lc];omega);generalize L6 R w1 (e.kd (x+1)) A9 (l++inn)=c at b1 b2 bk Pk hr ⊢;have rc:=b1.lt (g1.lt Ab);have g2:=V8 b1.i (a:=c.2) (b:=r) b2 rc (e.kd (x+1));have gk:=Ga c.1 c.2 r (e.kd (x+1));have Pg:=λsg' (h':Bb false b i t p j c.1 sg')=>Db h' A b1.i.ok (x:=c.2) (y:=r) b2 rc (e.kd (x+1));generalize c.1.agree c.2 r (e.kd (x+1))=w2 at g2 gk Pg hr ⊢;have gg:=(g1.trans b1).trans g2;have ar:=dG (R:=R) (A9:=A9) (l:=l) (r:=r) (v:=v) (by omega) ((e.J7.zip e.D5.tail).drop (x+1)) w2 (λa ha=>by obtain⟨m,hm,rfl⟩:=zCq.1 (zBq ha);rw[y1q,zYq,Ex.kU];rw[zl]at hm;have Km:=hK m hm;obtain⟨q1,-⟩:=hP _ (z7q hm);unfold F6.right at q1;rw[zMq]at q1;exact⟨Km.good,Km.sz,q1.1⟩) g2.i (hE.mono gg.ext.le) (gg.lt hv) (gg.lt Ab)
   have r1:=b1.ext.J6;have r2:=g2.ext.J6;have r3:=ar.1.ext.J6;rw[hs]at r1;obtain⟨s1,e1,a1,k1⟩:=PI (by omega);have M1:=KE.into h A k1 a1;obtain⟨s2,e2,m2,k2⟩:=B3w M1 A z.2 (if z.2≠0 then z.1.bad else U1);have hB:({ w with s:=z.1.s }:W).fails z.2 (if z.2≠0 then z.1.bad else U1)=w1:=by
    rw[<- hw1];by_cases gz:z.2=0
    ·unfold W.fails;rw[A7 (λh=>h.2 gz),A7 (λh=>h.2 gz)]
    ·rw[C9 gz]
   rw[hB]at m2;obtain⟨s3,e3,m3,k3⟩:=Pk s2 m2 (by omega);obtain⟨s4,e4,m4,k4⟩:=Pg s3 m3 (by omega);obtain⟨s5,e5,m5,k5⟩:=ih (x+1) w2 s4 (by omega) m4 g2.i (hE.mono gg.ext.le) (gg.lt hv) (gg.lt Ab) (by rw[gk];rw[Lc]at bk;omega) hr;have KK:Kx [b,i,t,p,j] sg s5:=((EP k1.k3).trans (EP k2)).trans ((k3.trans (EP k4)).trans k5);refine⟨s5,?_,m5,KK⟩;have wl:=A2W l [] (by simp;omega) s2;rw[y3q]at wl;have wl':C8.r DT [(.list 3 (l.map EN.D9),.val),(.list 3 [],.val)] s2=_:=wl;have lnS:∀ns:List ByteArray,N9 (.list 1 (ns.map DV.str))=some (iN ns.length):=λns=>by simp[iN]
   have four:∀a c d f:DV,Q4 0 (.J8 [a,c,d,f])=some a/\Q4 1 (.J8 [a,c,d,f])=some c/\Q4 2 (.J8 [a,c,d,f])=some d/\Q4 3 (.J8 [a,c,d,f])=some f:=λ_ _ _ _=>⟨rfl,rfl,rfl,rfl⟩;have z0:(DV.int .i64 0)=iN 0:=rfl;have e15:=Ir C8 t (iN A9) (.list 3 (l.map EN.D9)) p (iN v) (iN r) (iN x);have last:∀(names:List ByteArray)(nodes:List Nat),inn=List.zipWith (λs n=>(⟨s,n,[]⟩:EN)) names nodes->names.length<=nodes.length->names.length<=e.J7[x].size->
    CF C8 t (iN A9) (.list 3 (l.map EN.D9)) p (iN v) (iN r) (iN x) (.list 1 (nodes.map iN)) (.list 3 (l.map EN.D9)) (.list 7 (e.J7.map F6.D9)) (iN e.J7.length) (iN x) (.list 1 (names.map DV.str)) (iN names.length) (iN 0) e.D9 s2=Dn C8 t (iN A9) (.list 3 (l.map EN.D9)) p (iN v) (iN r) (.list 7 (e.J7.map F6.D9)) (iN e.J7.length) (iN (x+1)) e.D9 s4:=by
    intro names nodes hi eD kN;have lp:=B6C (t:=t) (p:=p) (e:=e) (A9:=A9) (l:=l) (v:=v) (r:=r) (x:=x) (pl:=.list 7 (e.J7.map F6.D9)) (nn:=e.J7.length) names nodes eD (by have:=K.ms;omega) s2 names.length 0 l (by omega) (by omega);rw[zbq,zbq,<- hi]at lp;rw[lp,Ir];simp only[Af,zkq,R8,I7,F3,z1q,G8,addN (show x<2 ^ 62 by omega),Mo,e3,z0q,Uv (show x+1<e.D5.length by omega),e4]
   by_cases gz:z.2=0
   ·have MP:inn=List.zipWith (λs n=>(⟨s,n,[]⟩:EN)) z.1.names z.1.nodes:=A7 (λh=>h gz);rw[A7 (λh=>h gz)]at e1;rw[A7 (λh=>h gz)]at e2;have nf:C8.r R6 [(.undef,.ptr t 0),(iN 0,.val),(U1.D9,.val)] s1=some ([],s2):=by have:=e2;rw[gz]at this;exact this
    rw[e1]at start;simp only[I7,(four _ _ _ _).1,(four _ _ _ _).2.1,(four _ _ _ _).2.2.1,(four _ _ _ _).2.2.2,(A0E U1).1,(A0E U1).2,F8,nf,wl',lnS,z0,z0q]at start;rw[start,last z.1.names z.1.nodes MP (by omega) (by omega)];exact e5
   ·have MP:inn=List.zipWith (λs n=>(⟨s,n,[]⟩:EN)) [] []:=C9 gz;rw[C9 gz]at e1 e2;rw[e1]at start;simp only[I7,(four _ _ _ _).1,(four _ _ _ _).2.1,(four _ _ _ _).2.2.1,(four _ _ _ _).2.2.2,(A0E z.1.bad).1,(A0E z.1.bad).2,F8,e2,wl',z0q]at start;have l0:N9 (.list 1 [])=some (iN 0):=rfl;simp only[l0,I7,z0]at start;have:=last [] [] MP (by simp) (by simp);simp only[zqq,z8q]at this;rw[start,this];exact e5
def B6R(A:Fv b i t p j)(hK:∀k∈e.D5,PE b i t R A9 l.length k)(hV:EV l){want out:Nat}(hw:want<5)(af:e.D5.length<2 ^ 29):∀(q x:Nat)(w:W)(sg:List E5),x+q=e.D5.length->Bb g b i t p j w sg->AF w->AB w.s.l.length l->w.D5.length<=x->(Ho R A9 l want (e.D5.drop x) w).s.J6+10<2 ^ 62->
 Tq g b i t p j sg (Io C8 t (iN A9) (.list 3 (l.map EN.D9)) p (iN want) (iN out) (A8 15 e.D9) (iN e.D5.length) (iN x) e.D9 sg) [iN out] (Ho R A9 l want (e.D5.drop x) w):=by
 intro q;induction q with
 |zero=>intro x w sg hx h I hE Hf hr;rw[z9q (by omega),Ho,TB];simp only[Af,I7,F3,I4];rw[A7 (by omega)];exact⟨sg,rfl,h,Kx.refl _⟩
 |succ q ih=>
   intro x w sg hx h I hE Hf hr;have FI:x<e.D5.length:=by omega
   have K:=hK _ (z7q FI);rw[z3q FI,Ho]at hr ⊢;rw[Ex.kU FI]at K hr ⊢;have start:=TB C8 t (iN A9) (.list 3 (l.map EN.D9)) p (iN want) (iN out) (A8 15 e.D9) (iN e.D5.length) (iN x) e.D9 sg;simp only[Af,I7,F3,FI,K3,F5,Uv FI,Mo]at start;obtain⟨a1,a2⟩:=W9 K.good K.sz I hE;have ak:=SV R w (e.kd x) A9 l;have Pa:=Fb (g:=g) (e:=e) A h I (idx:=x) FI K hE hV (by omega);generalize L6 R w (e.kd x) A9 l=a at a1 a2 ak Pa hr ⊢;have f5:=a1.i.ok.five;have g1:=V8 a1.i (a:=a.2) (b:=want) a2 (by omega) (e.kd x);have gk:=Ga a.1 a.2 want (e.kd x);have Pg:=λsg' (h':Bb g b i t p j a.1 sg')=>Db h' A a1.i.ok (x:=a.2) (y:=want) a2 (by omega) (e.kd x);generalize a.1.agree a.2 want (e.kd x)=w1 at g1 gk Pg hr ⊢;have ag:=a1.trans g1;have os:=zo (R:=R) (A9:=A9) (l:=l) hw (e.D5.drop (x+1)) w1 (λk hk=>⟨(hK k (zBq hk)).good,(hK k (zBq hk)).sz⟩) g1.i (hE.mono ag.ext.le);have r1:=g1.ext.J6;have r2:=os.ext.J6;obtain⟨s1,e1,m1,k1⟩:=Pa (by omega);obtain⟨s2,e2,m2,k2⟩:=Pg s1 m1 (by omega);obtain⟨s3,e3,m3,k3⟩:=ih (x+1) w1 s2 (by omega) m2 g1.i (hE.mono ag.ext.le) (by rw[gk];omega) hr;refine⟨s3,?_,m3,k1.trans ((EP k2).trans k3)⟩;simp only[e1,I7,z0q,e2,addN (show x<2 ^ 62 by omega)]at start;exact start.trans e3
end
end Go.Su

/-
 Inference in memory: expressions.
-/
namespace Go.Su
set_option linter.defProp false
section
variable {b i t p j:Nat}{g:Bool}{w:W}{sg:List E5}{R:Rec}{e:Ex}{A9:Nat}{l:List EN}
def B5o(A:Fv b i t p j)(h:Bb g b i t p j w sg)(I:AF w)(hk:e.D5.length=e.J7.length+1)(K0:PE b i t R A9 l.length (e.kd 0))(hK:∀x (hx:x<e.J7.length),PE b i t R A9 (l.length+e.J7[x].size) (e.kd (x+1)))(hP:∀q∈e.J7,q.right=true/\q.thin=true/\q.txt/\q.size<2 ^ 29)(Ut:e.J7.length<2 ^ 29)(hE:AB w.s.l.length l)(hV:EV l)(hll:l.length<2 ^ 30)(Hf:w.D5=[])(hr:(MX R w e A9 l).1.s.J6+10<2 ^ 62):
 Tq false b i t p j sg (C8.r Ii [(.undef,.ptr t 0),(e.D9,.val),(iN A9,.val),(.list 3 (l.map EN.D9),.val),(.undef,.ptr p 0)] sg) [iN (MX R w e A9 l).2] (MX R w e A9 l).1:=by
 have start:=(gZ t e.D9 (iN A9) (.list 3 (l.map EN.D9)) p sg).trans (jQ _ _ _ _ _ _ _);simp only[AA,F8,Mo,Uv (show 0<e.D5.length by omega),show(DV.int .i64 0)=iN 0 from rfl]at start;rw[Ex.A1v,B5Q]at start;obtain⟨a1,a2⟩:=W9 K0.good K0.sz I hE;have ak:=SV R w (e.kd 0) A9 l;have Pa:=Fb (g:=g) A h I (idx:=0) (by omega) K0 hE hV (by rw[Hf];simp);unfold MX at hr ⊢;simp only at hr ⊢;generalize L6 R w (e.kd 0) A9 l=a at a1 a2 ak Pa hr ⊢;rw[Hf]at ak;simp only[z8q]at ak;have lb:A9<2 ^ 30:=by have:=K0.sz;omega
 obtain⟨v1,v2⟩:=BM a1.i (show A9<2 ^ 31 by omega);have vk:=TN a.1 A9;have Pv:=λsg' (h':Bb g b i t p j a.1 sg')=>NZ h' A a1.i.ok A9;generalize a.1.fresh A9=v at v1 v2 vk Pv hr ⊢;have g1:=V8 v1.i (a:=a.2) (b:=v.2) (v1.lt a2) v2 (e.kd 0);have gk:=Ga v.1 a.2 v.2 (e.kd 0);have Pg:=λsg' (h':Bb g b i t p j v.1 sg')=>Db h' A v1.i.ok (x:=a.2) (y:=v.2) (v1.lt a2) v2 (e.kd 0);generalize v.1.agree a.2 v.2 (e.kd 0)=w0 at g1 gk Pg hr ⊢;obtain⟨r1,r2⟩:=BM g1.i (show A9<2 ^ 31 by omega);have rk:=TN w0 A9;have Pr:=λsg' (h':Bb g b i t p j w0 sg')=>NZ h' A g1.i.ok A9;generalize w0.fresh A9=r at r1 r2 rk Pr hr ⊢;have t1:=JM r1 (l:=[v.2,r.2]) (by intro x hx;simp only[znq,zhq,or_false]at hx;rcases hx with rfl | rfl;exact r1.lt (g1.lt v2);exact r2);have gg:=(((a1.trans v1).trans g1).trans t1);have vl:=t1.lt (g1.lt v2);have ar:=dG (R:=R) (A9:=A9) (l:=l) (r:=r.2) (v:=v.2) (by omega) (e.J7.zip e.D5.tail) (r.1.Aq [v.2,r.2]) (λa ha=>by
  obtain⟨m,hm,rfl⟩:=zCq.1 ha;rw[y5q,ydq]at hm;rw[y1q,zYq,Ex.kU];have RB:m<e.J7.length:=by omega
  have Km:=hK m RB;obtain⟨q1,-⟩:=hP _ (z7q RB);unfold F6.right at q1;rw[zMq]at q1;exact⟨Km.good,Km.sz,q1.1⟩) t1.i (hE.mono gg.ext.le) vl r2
 have x1:=v1.ext.J6;have x2:=g1.ext.J6;have x3:=r1.ext.J6;have x4:=ar.1.ext.J6;have rt:(r.1.Aq [v.2,r.2]).s=r.1.s:=rfl;rw[rt]at x4;obtain⟨s1,e1,m1,k1⟩:=Pa (by omega);obtain⟨s2,e2,m2,k2⟩:=Pv s1 m1;obtain⟨s3,e3,m3,k3⟩:=Pg s2 m2 (by omega);obtain⟨s4,e4,m4,k4⟩:=Pr s3 m3;obtain⟨c,u,c1,c2,m5,k5⟩:=fE m4 A [v.2,r.2];have M:=B09 (R:=R) (e:=e) (A9:=A9) (l:=l) A lb hk hK hP Ut (v:=v.2) (r:=r.2) hV hll e.J7.length 0 (r.1.Aq [v.2,r.2]) _ (by omega) m5 t1.i (hE.mono gg.ext.le) vl r2 (by simp only[kT,rk,gk,vk];omega) (by rw[zbq];exact hr);rw[zbq]at M;obtain⟨s6,e6,m6,k6⟩:=M;simp only[zJq,zqq]at e6;simp only[e1,I7,z0q,Mo,e2,e3,e4,P6,F8,c1,c2]at start;exact⟨s6,start.trans e6,m6,(k1.trans (EP k2)).trans (((EP k3).trans (EP k4)).trans (k5.trans k6))⟩
def C0t(e:Ex):N9 (A8 15 e.D9)=some (iN e.D5.length):=by rw[Ex.A68];simp[iN]
def B9O(A:Fv b i t p j)(h:Bb g b i t p j w sg)(I:AF w)(hK:∀k∈e.D5,PE b i t R A9 l.length k)(hE:AB w.s.l.length l)(hV:EV l)(Hf:w.D5=[])(af:e.D5.length<2 ^ 29)(hr:(Ho R A9 l (if e.op=7 then 2 else 0) e.D5 w).s.J6+10<2 ^ 62):
 Tq g b i t p j sg (C8.r Ld [(.undef,.ptr t 0),(e.D9,.val),(iN A9,.val),(.list 3 (l.map EN.D9),.val),(.undef,.ptr p 0)] sg) [iN (if e.op=5\/e.op=6\/e.op=7 then 1 else 0)] (Ho R A9 l (if e.op=7 then 2 else 0) e.D5 w):=by
 have start:=(rH t e.D9 (iN A9) (.list 3 (l.map EN.D9)) p sg).trans (tC _ _ _ _ _ _ _);simp only[AA,F8,Ex.B1k,AV,I7,F3,I4,mM,C0t]at start;have L:=λ(want out:Nat)(hw:want<5) hrr=>B6R (g:=g) (R:=R) (e:=e) (A9:=A9) (l:=l) A hK hV (want:=want) (out:=out) hw af e.D5.length 0 w sg (by omega) h I hE (by rw[Hf];simp) hrr;simp only[zbq]at L;by_cases h5:e.op=5
 ·rw[A7 (show ¬e.op=7 by omega)]at hr ⊢;rw[C9 (show e.op=5\/e.op=6\/e.op=7 by omega)];rw[C9 h5]at start;obtain⟨s1,e1,m1,k1⟩:=L 0 1 (by omega) hr;exact⟨s1,start.trans e1,m1,k1⟩
 rw[A7 h5]at start;by_cases h6:e.op=6
 ·rw[A7 (show ¬e.op=7 by omega)]at hr ⊢;rw[C9 (show e.op=5\/e.op=6\/e.op=7 by omega)];rw[C9 h6]at start;obtain⟨s1,e1,m1,k1⟩:=L 0 1 (by omega) hr;exact⟨s1,start.trans e1,m1,k1⟩
 rw[A7 h6]at start;by_cases h7:e.op=7
 ·rw[C9 h7]at hr start ⊢;rw[C9 (show e.op=5\/e.op=6\/e.op=7 by omega)];obtain⟨s1,e1,m1,k1⟩:=L 2 1 (by omega) hr;exact⟨s1,start.trans e1,m1,k1⟩
 ·rw[A7 h7]at hr start ⊢;rw[A7 (show ¬(e.op=5\/e.op=6\/e.op=7)by omega)];obtain⟨s1,e1,m1,k1⟩:=L 0 0 (by omega) hr;exact⟨s1,start.trans e1,m1,k1⟩
def B6s(A:Fv b i t p j){w':W}{n:Nat}(h:Bb g b i t p j w' sg)(z0 z1 z2 z3:DV):
 ∃sg',O3 C8 p (iN n) z0 z1 z2 z3 sg=some ([iN n,(DD.mk n w'.types w'.vars w'.D5).D9],sg')/\KE b i t w' sg'/\Kx [p] sg sg':=by
 obtain⟨m1,m2,m3,c1,c2,c3,c4⟩:=h.d;have lp:=CZ c1;have i0:(XW w' m1 m2 m3)[0]?=some (iN 0,.val):=rfl;have s0:(XW w' m1 m2 m3).set 0 (iN n,.val)=[(iN n,.val),(.list 1 (w'.types.map iN),m1),(.list 1 (w'.vars.map iN),m2),(.list 4 (w'.D5.map DD.D9),m3)]:=rfl;have Rq:(∃n,m1=.U3 j n 1)\/m1=.full:=by
  cases g with
  |true=>simp only[F5]at c2;obtain⟨n,hn,-⟩:=c2;exact .inl ⟨n,hn⟩
  |false=>simpa using c2
 have sd:VK 0 4 [(iN n,.val),(.list 1 (w'.types.map iN),m1),(.list 1 (w'.vars.map iN),m2),(.list 4 (w'.D5.map DD.D9),m3)]=some [iN n,.list 1 (w'.types.map iN),.list 1 (w'.vars.map iN),.list 4 (w'.D5.map DD.D9)]:=by rcases Rq with⟨n,rfl⟩ | rfl<;>rcases c3 with rfl | rfl<;>rcases c4 with rfl | rfl<;>rfl
 refine⟨sg.set p (.box [(iN n,.val),(.list 1 (w'.types.map iN),m1),(.list 1 (w'.vars.map iN),m2),(.list 4 (w'.D5.map DD.D9),m3)]),?_,⟨?_,?_⟩,Kx.set1 _ (.box [(iN n,.val),(.list 1 (w'.types.map iN),m1),(.list 1 (w'.vars.map iN),m2),(.list 4 (w'.D5.map DD.D9),m3)]) (by simp)⟩
 ·rw[bz];simp only[c1,I7,P6,F8,i0,s0,Bj lp,sd];rw[DD.D9,A10];rfl
 ·exact h.t.st.mono (z2q A.pp.1) (z2q A.pp.2.1)
 ·rw[Cw A.pp.2.2];exact h.t.box
end
def B4V{e:Ex}{x:Nat}(hk:e.D5.length=e.J7.length+1)(hx:x<e.J7.length):e.J7[x].size+(e.kd (x+1)).V4<=e.V4:=by have h1:=e.Bt;have h2:=JA (zwq (f:=F6.V4) (z7q hx));have h3:=JA (zwq (f:=Ex.V4) (Ex.Cg (e:=e) (i:=x+1) (by omega)));have h4:=F6.TY e.J7[x];omega
set_option maxHeartbeats 2000000 in
def A9W{b i t:Nat}:∀(f:Nat)(e:Ex),e.right=true->e.size<=f->RSp b i t (M5 f) e
 |0,e,_,hs=>by have:=Ex.size_eq e;omega
 |f+1,e,Oq,hs=>λA9 l w sg hl hm I hE hV T hr=>by
   obtain⟨k1,k2,k3⟩:=Ex.kV Oq;have BQ:e.fit:=Ex.aG (by omega);have Sg:=BQ.one
   let p:=sg.length
   let w0:W:={ w with types:=[],vars:=[],D5:=[] }
   let K4:=sg++[.box (XW w0 (.U3 (p+1) 1 1) .full .full),.U3 1 1 0]
   have ltb:=T.st.lt;have ltt:=CZ T.box;have A:Fv b i t p (p+1):=by constructor<;>omega
   have M0:Bb true b i t p (p+1) w0 K4:=by
    refine⟨⟨T.st.app _,?_⟩,.U3 (p+1) 1 1,.full,.full,?_,?_,.inl rfl,.inl rfl⟩
    ·unfold H5;rw[zaq ltt];exact T.box
    ·simp[K4,p,H5]
    ·simp only[F5]
     exact⟨1,rfl,by simp[K4,p,zlq,w0]⟩
   have I0:AF w0:=⟨I.ok,by simp[w0],⟨by simp[w0],by simp[w0]⟩,trivial⟩;have gi:Pe (sg++[E5.box [((iI 0),.val),((.list 1 []),.full),((.list 1 []),.full),((.list 4 []),.full)]]) sg.length [1]=some K4:=by
    have b0:∀(c:List (DV×F4))(L:List E5),H5 (sg++E5.box c::L) sg.length=some c:=λc L=>by simp[H5]
    simp only[Pe,b0,I7,zPq,zQq,y0q,F5];rw[zIq _ _ (zeq _),zVq,zRq];simp[K4,p,XW,w0,iN]
   have ex:M5 (f+1) e A9 l w=((T9 (M5 f) w0 e A9 l).1,(T9 (M5 f) w0 e A9 l).2,.mk (T9 (M5 f) w0 e A9 l).2 (T9 (M5 f) w0 e A9 l).1.types (T9 (M5 f) w0 e A9 l).1.vars (T9 (M5 f) w0 e A9 l).1.D5):=by rw[M5]
   rw[ex]at hr ⊢;simp only at hr ⊢;have fin:∀{g:Bool}(z0 z1 z2 z3:DV)(sg':List E5)(n:Nat)(w':W),Bb g b i t p (p+1) w' sg'->Kx [b,i,t,p,p+1] K4 sg'->C8.r B_ [(.undef,.ptr t 0),(e.D9,.val),(iN A9,.val),(.list 3 (l.map EN.D9),.val)] sg=O3 C8 p (iN n) z0 z1 z2 z3 sg'->(T9 (M5 f) w0 e A9 l)=(w',n)->
    ∃sg',C8.r B_ [(.undef,.ptr t 0),(e.D9,.val),(iN A9,.val),(.list 3 (l.map EN.D9),.val)] sg=some ([iN (T9 (M5 f) w0 e A9 l).2,(DD.mk (T9 (M5 f) w0 e A9 l).2 (T9 (M5 f) w0 e A9 l).1.types (T9 (M5 f) w0 e A9 l).1.vars (T9 (M5 f) w0 e A9 l).1.D5).D9],sg')/\KE b i t (T9 (M5 f) w0 e A9 l).1 sg'/\Kx [b,i,t] sg sg':=by
    intro g z0 z1 z2 z3 sg' n w' M K h hb;obtain⟨s2,e2,t2,k2⟩:=B6s A (n:=n) M z0 z1 z2 z3;rw[hb];refine⟨s2,h.trans e2,t2,?_⟩;have l1:=K.le;have l2:=k2.le;simp only[K4,zgq,zdq,z8q]at l1;refine⟨by omega,λx hx hn=>?_⟩;simp only[znq,zhq,or_false,not_or]at hn;rw[k2.eq x (by omega) (by simp;omega),K.eq x (by simp[K4];omega) (by simp;omega)];exact zaq hx
   have KK:∀x,x<e.D5.length->EX (M5 f) (e.kd x)/\RSp b i t (M5 f) (e.kd x)/\A9+1+(e.kd x).size<2 ^ 30/\(e.kd x).V4<e.V4/\e.kd x∈e.D5:=λx hx=>by have m:=Ex.Cg hx;have s:=Ex.Cy m;exact⟨Qb f _ (Ex.ED Oq m),A9W f _ (Ex.ED Oq m) (by omega),by omega,Ex.bA m,m⟩
   have KO:∀x,x<e.D5.length->PE b i t (M5 f) (A9+1) (l.length+2) (e.kd x):=λx hx=>by obtain⟨a,c,d,m,-⟩:=KK x hx;exact⟨a,c,d,by omega⟩
   have VO:∀x,x<e.D5.length->PE b i t (M5 f) A9 l.length (e.kd x):=λx hx=>(KO x hx).le (by omega) (by omega);have za:=e.A6M;have zb:=e.A6N;have zl:=e.A6O;have na:=Ex.uh Oq;have lb:A9<2 ^ 31:=by omega
   have E0:AB w0.s.l.length l:=hE;have start:=(jr t e.D9 (iN A9) (.list 3 (l.map EN.D9)) sg).trans (mI _ _ _ _ _ _);have c3:J2 (A8 3 e.D9)=true:=by rw[Ex.Lm];rfl
   have nk:∀c:Int,D7 .eql (A8 0 e.D9) (iI c)=some (.bool (decide (e.E8=c))):=λc=>by rw[Ex.Bh,AV]
   have nk2:∀c:Int,D7 .eql (iI e.E8) (iI c)=some (.bool (decide (e.E8=c))):=λc=>AV _ _ _;have C0E:e.E8=2\/e.E8=3\/e.E8=4\/e.E8=5->D7 .sub (A8 0 e.D9) (iI 2)=some (iN (e.E8-2).toNat):=λh=>by
    rw[Ex.Bh,IX,Fg (by omega) (by omega)];simp only[iN]
    congr 2;omega
   simp only[AA,F8,Mo,gi,I7,nk,F3,I4]at start;have c20:=bu C8 t (iN A9) (.list 3 (l.map EN.D9)) p (A8 0 e.D9) e.D9 K4;simp only[nk,nk2,Mo,(B1P e).1,I7,F3,I4,c3,F8]at c20;rw[Ex.Lm]at c20;have sQ:9<=e.E8->C8.r B_ [(.undef,.ptr t 0),(e.D9,.val),(iN A9,.val),(.list 3 (l.map EN.D9),.val)] sg=LG C8 t (iN A9) (.list 3 (l.map EN.D9)) p (A8 0 e.D9) e.D9 K4:=λh9=>by rw[start,A7 (by omega),A7 (by omega),A7 (by omega),A7 (by omega),A7 (by omega),A7 (by omega),A7 (by omega),A7 (by omega)]
   have z0:(DV.int .i64 0)=iN 0:=rfl;have z1:(DV.int .i64 1)=iN 1:=rfl;have z7:(DV.int .i64 7)=iN 7:=rfl;have z8:(DV.int .i64 8)=iN 8:=rfl;have z9:(DV.int .i64 9)=iN 9:=rfl;by_cases g1:e.E8=1
   ·have hb:T9 (M5 f) w0 e A9 l=w0.name e A9 l:=by unfold T9;rw[C9 g1]
    rw[hb]at hr;obtain⟨s2,e2,m2,k2⟩:=B7q M0 A I0 (e:=e) (l:=l) lb E0 (by omega) hV rfl hr;rw[C9 g1,e2]at start;exact fin _ _ _ _ s2 _ _ m2 k2 start hb
   by_cases g2:e.E8=2\/e.E8=3\/e.E8=4\/e.E8=5
   ·have hb:T9 (M5 f) w0 e A9 l=(w0,(e.E8-2).toNat):=by unfold T9;rw[A7 g1,C9 g2]
    rw[hb]at hr;refine fin (iI 0) (.list 1 []) (.list 1 []) (.list 4 []) K4 _ _ M0 (Kx.refl _) (start.trans ?_) hb;rw[C0E g2,A7 g1];simp only[I7];rcases g2 with g | g | g | g<;>simp[g]<;>rfl
   by_cases g3:e.E8=6
   ·have hb:T9 (M5 f) w0 e A9 l=(L6 (M5 f) (L6 (M5 f) w0 (e.kd 0) A9 l).1 (e.kd 1) A9 l).1.made 7 (L6 (M5 f) w0 (e.kd 0) A9 l).2 (L6 (M5 f) (L6 (M5 f) w0 (e.kd 0) A9 l).1 (e.kd 1) A9 l).2:=by unfold T9;rw[A7 g1,A7 g2,C9 g3]
    rw[hb]at hr;rw[A7 g1,A7 (by omega),A7 (by omega),A7 (by omega),A7 (by omega),C9 g3]at start;have n2:e.D5.length=2:=by simp[g3,M6]at k3;omega
    obtain⟨a1,a2⟩:=W9 (w:=w0) (l:=l) (VO 0 (by omega)).good (VO 0 (by omega)).sz I0 E0;have ak:=SV (M5 f) w0 (e.kd 0) A9 l;have Pa:=Fb (l:=l) (e:=e) A M0 I0 (idx:=0) (by omega) (VO 0 (by omega)) E0 hV (by simp[w0]);generalize L6 (M5 f) w0 (e.kd 0) A9 l=a at a1 a2 ak Pa hr hb;obtain⟨b1,b2⟩:=W9 (w:=a.1) (l:=l) (VO 1 (by omega)).good (VO 1 (by omega)).sz a1.i (E0.mono a1.ext.le);have Pb:=λsg' (h':Bb true b i t p (p+1) a.1 sg')=>Fb (l:=l) (e:=e) A h' a1.i (idx:=1) (by omega) (VO 1 (by omega)) (E0.mono a1.ext.le) hV (by simp[w0]at ak;omega);generalize L6 (M5 f) a.1 (e.kd 1) A9 l=q at b1 b2 Pb hr hb;have r1:=b1.ext.J6;have r2:=(Fs b1.i (k:=7) (x:=a.2) (y:=q.2) (.inl rfl) (b1.lt a2) (λ_=>b2)).1.ext.J6;obtain⟨s1,e1,m1,h1⟩:=Pa (by omega);obtain⟨s2,e2,m2,h2⟩:=Pb s1 m1 (by omega);obtain⟨s3,e3,m3,h3⟩:=WZ m2 A b1.i.ok (k:=7) (x:=a.2) (y:=q.2) (.inl rfl) (b1.lt a2) (λ_=>b2);have Ie:C8.r O7 [(.undef,.ptr t 0),(e.D9,.val),(iN 0,.val),(iN A9,.val),(.list 3 (l.map EN.D9),.val),(.undef,.ptr sg.length 0)] K4=_:=e1;have e2':C8.r O7 [(.undef,.ptr t 0),(e.D9,.val),(iN 1,.val),(iN A9,.val),(.list 3 (l.map EN.D9),.val),(.undef,.ptr sg.length 0)] s1=_:=e2;simp only[z0,z1,z7,Ie,I7,z0q,e2',e3]at start;exact fin _ _ _ _ s3 _ _ m3 ((h1.trans h2).trans (EP h3)) start hb
   by_cases g4:e.E8=7
   ·have hb:T9 (M5 f) w0 e A9 l=((w0.fresh A9).1.Aq [(w0.fresh A9).2]).made 8 (w0.fresh A9).2 0:=by unfold T9;rw[A7 g1,A7 g2,A7 g3,C9 g4]
    rw[hb]at hr;rw[A7 g1,A7 (by omega),A7 (by omega),A7 (by omega),A7 (by omega),A7 g3,C9 g4]at start;obtain⟨v1,v2⟩:=BM I0 lb;obtain⟨s1,e1,m1,h1⟩:=NZ M0 A I0.ok A9;generalize w0.fresh A9=v at v1 v2 e1 m1 hr hb;have t1:=JM v1 (l:=[v.2]) (by simpa using v2);obtain⟨c,u,c1,c2,m2,h2⟩:=fE m1 A [v.2];obtain⟨s3,e3,m3,h3⟩:=WZ m2 A t1.i.ok (k:=8) (x:=v.2) (y:=0) (.inr (.inl rfl)) v2 (λh=>absurd rfl h);simp only[zJq,zqq]at e3;have c1':H5 s1 sg.length=some c:=c1;simp only[z0,z8,e1,I7,z0q,P6,F8,c1',c2]at start;have e3':C8.r BK [(.undef,.ptr t 0),(iN 8,.val),(iN v.2,.val),(iN 0,.val)] (s1.set sg.length (.box (c.set 1 (.list 1 [iN v.2],.full))))=_:=e3;simp only[e3',I7,z0q]at start;exact fin _ _ _ _ s3 _ _ m3 (((EP h1).trans h2).trans (EP h3)) start hb
   by_cases g5:e.E8=8
   ·have hb:T9 (M5 f) w0 e A9 l=QZ (M5 f) w0 e A9 l:=by unfold T9;rw[A7 g1,A7 g2,A7 g3,A7 g4,C9 g5]
    rw[hb]at hr;rw[A7 g1,A7 (by omega),A7 (by omega),A7 (by omega),A7 (by omega),A7 g3,A7 g4,C9 g5]at start;have n2:e.D5.length=2:=by simp[g5,M6]at k3;omega
    obtain⟨s2,e2,m2,h2⟩:=B7k (l:=l) (e:=e) A M0 I0 n2 (VO 0 (by omega)) (VO 1 (by omega)) E0 hV rfl hr;have e2':C8.r Jr [(.undef,.ptr t 0),(e.D9,.val),(iN A9,.val),(.list 3 (l.map EN.D9),.val),(.undef,.ptr sg.length 0)] K4=_:=e2;simp only[e2',I7,z0q]at start;exact fin _ _ _ _ s2 _ _ m2 h2 start hb
   by_cases g6:e.E8=9
   ·have hb:T9 (M5 f) w0 e A9 l=(L6 (M5 f) (w0.AP e.a A9).1 (e.kd 0) A9 (l++[⟨e.name,(w0.AP e.a A9).2,[]⟩])).1.made 9 (w0.AP e.a A9).2 (L6 (M5 f) (w0.AP e.a A9).1 (e.kd 0) A9 (l++[⟨e.name,(w0.AP e.a A9).2,[]⟩])).2:=by unfold T9;rw[A7 g1,A7 g2,A7 g3,A7 g4,A7 g5,C9 g6]
    rw[hb]at hr;have st:=(sQ (by omega)).trans c20;rw[C9 (by omega)]at st;have nn:e.D5.length=1:=by simp[g6,M6]at k3;omega
    obtain⟨p1,p2⟩:=Qg I0 (A9:=A9) na.1 lb;have pk:=kS w0 e.a A9;obtain⟨s1,e1,m1,h1⟩:=A0c M0 A I0.ok na.1 (by omega) Sg.a A9 (by simp[w0]);generalize w0.AP e.a A9=q at p1 p2 pk e1 m1 hr hb;have hE1:AB q.1.s.l.length (l++[⟨e.name,q.2,[]⟩]):=(E0.mono p1.ext.le).app (AB.one p2);have hV1:EV (l++[⟨e.name,q.2,[]⟩]):=hV.app EV.one;have K:=(KO 0 (by omega)).le (lev':=A9) (n':=(l++[(⟨e.name,q.2,[]⟩:EN)]).length) (by omega) (by simp);obtain⟨b1,b2⟩:=W9 (w:=q.1) (l:=l++[⟨e.name,q.2,[]⟩]) K.good K.sz p1.i hE1;have Pb:=Fb (l:=l++[⟨e.name,q.2,[]⟩]) (e:=e) A m1 p1.i (idx:=0) (by omega) K hE1 hV1 (by rw[pk];simp[w0]);generalize L6 (M5 f) q.1 (e.kd 0) A9 (l++[⟨e.name,q.2,[]⟩])=a at b1 b2 Pb hr hb;have r2:=(Fs b1.i (k:=9) (x:=q.2) (y:=a.2) (.inr (.inr rfl)) (b1.lt p2) (λ_=>b2)).1.ext.J6;obtain⟨s2,e2,m2,h2⟩:=Pb (by omega);obtain⟨s3,e3,m3,h3⟩:=WZ m2 A b1.i.ok (k:=9) (x:=q.2) (y:=a.2) (.inr (.inr rfl)) (b1.lt p2) (λ_=>b2);have wl:=A7V l e.name q.2 [] (by omega) s1;have wl':C8.r DT [(.list 3 (l.map EN.D9),.val),(.list 3 [.agg [.str e.name,iN q.2,.list 1 []]],.val)] s1=_:=wl;simp only[z0,z9,e1,I7,z0q,P6,F8,wl',e2,e3]at st;exact fin _ _ _ _ s3 _ _ m3 ((h1.trans h2).trans (EP h3)) st hb
   by_cases g7:e.E8=10
   ·have hb:T9 (M5 f) w0 e A9 l=Vx (M5 f) w0 e A9 l:=by unfold T9;rw[A7 g1,A7 g2,A7 g3,A7 g4,A7 g5,A7 g6,C9 g7]
    rw[hb]at hr;have st:=(sQ (by omega)).trans c20;rw[A7 (by omega),C9 (by omega)]at st;have nn:e.D5.length=2:=by simp[g7,M6]at k3;omega
    obtain⟨s2,e2,m2,h2⟩:=B83 (l:=l) (e:=e) A M0 I0 nn (VO 0 (by omega)) (VO 1 (by omega)) E0 hV rfl hr;have e2':C8.r KR [(.undef,.ptr t 0),(e.D9,.val),(iN A9,.val),(.list 3 (l.map EN.D9),.val),(.undef,.ptr p 0)] K4=_:=e2;simp only[e2',I7,z0q]at st;exact fin _ _ _ _ s2 _ _ m2 h2 st hb
   by_cases g8:e.E8=11
   ·have hb:T9 (M5 f) w0 e A9 l=WN (M5 f) w0 e A9 l:=by unfold T9;rw[A7 g1,A7 g2,A7 g3,A7 g4,A7 g5,A7 g6,A7 g7,C9 g8]
    rw[hb]at hr;have st:=(sQ (by omega)).trans c20;rw[A7 (by omega),A7 (by omega),C9 (by omega)]at st;have nn:e.D5.length=2:=by simp[g8,M6]at k3;omega
    obtain⟨s2,e2,m2,h2⟩:=B84 (l:=l) (e:=e) A M0 I0 nn Oq (BQ.kid (Ex.Cg (by omega))) (by omega) Sg.a ((KO 0 (by omega)).le (zeq _) (by omega)) ((KO 1 (by omega)).le (by omega) (by omega)) E0 hV rfl hr;have e2':C8.r KS [(.undef,.ptr t 0),(e.D9,.val),(iN A9,.val),(.list 3 (l.map EN.D9),.val),(.undef,.ptr p 0)] K4=_:=e2;simp only[e2',I7,z0q]at st;exact fin _ _ _ _ s2 _ _ m2 h2 st hb
   by_cases g9:e.E8=12
   ·have hb:T9 (M5 f) w0 e A9 l=WS (M5 f) w0 e A9 l:=by unfold T9;rw[A7 g1,A7 g2,A7 g3,A7 g4,A7 g5,A7 g6,A7 g7,A7 g8,C9 g9]
    rw[hb]at hr;have st:=(sQ (by omega)).trans c20;rw[A7 (by omega),A7 (by omega),A7 (by omega),C9 (by omega)]at st;have nn:e.D5.length=2:=by simp[g9,M6]at k3;omega
    obtain⟨s2,e2,m2,h2⟩:=B87 (l:=l) (e:=e) A M0 I0 nn Oq (by omega) Sg.a (by omega) Sg.b (KO 0 (by omega)) ((KO 1 (by omega)).le (by omega) (by omega)) E0 hV rfl rfl hr;have e2':C8.r KT [(.undef,.ptr t 0),(e.D9,.val),(iN A9,.val),(.list 3 (l.map EN.D9),.val),(.undef,.ptr p 0)] K4=_:=e2;simp only[e2',I7,z0q]at st;exact fin _ _ _ _ s2 _ _ m2 h2 st hb
   by_cases g10:e.E8=13
   ·have hb:T9 (M5 f) w0 e A9 l=QY (M5 f) w0 e A9 l:=by unfold T9;rw[A7 g1,A7 g2,A7 g3,A7 g4,A7 g5,A7 g6,A7 g7,A7 g8,A7 g9,C9 g10]
    rw[hb]at hr;have st:=(sQ (by omega)).trans c20;rw[A7 (by omega),A7 (by omega),A7 (by omega),A7 (by omega),C9 (by omega)]at st;have nn:e.D5.length=3:=by simp[g10,M6]at k3;omega
    obtain⟨s2,e2,m2,h2⟩:=B7j (l:=l) (e:=e) A M0 I0 nn (VO 0 (by omega)) (VO 1 (by omega)) (VO 2 (by omega)) E0 hV rfl hr;have e2':C8.r Jq [(.undef,.ptr t 0),(e.D9,.val),(iN A9,.val),(.list 3 (l.map EN.D9),.val),(.undef,.ptr p 0)] K4=_:=e2;simp only[e2',I7,z0q]at st;exact fin _ _ _ _ s2 _ _ m2 h2 st hb
   by_cases g11:e.E8=14
   ·have hb:T9 (M5 f) w0 e A9 l=MX (M5 f) w0 e A9 l:=by unfold T9;rw[A7 g1,A7 g2,A7 g3,A7 g4,A7 g5,A7 g6,A7 g7,A7 g8,A7 g9,A7 g10,C9 g11]
    rw[hb]at hr;have st:=(sQ (by omega)).trans c20;rw[A7 (by omega),A7 (by omega),A7 (by omega),A7 (by omega),A7 (by omega),C9 (by omega)]at st;have nn:e.D5.length=e.J7.length+1:=by simp[g11,M6]at k3;omega
    obtain⟨s2,e2,m2,h2⟩:=B5o (l:=l) (e:=e) A M0 I0 nn (VO 0 (by omega)) (λx hx=>by
     obtain⟨a,c,d,m,-⟩:=KK (x+1) (by omega);have pm:=B4V nn hx;exact⟨a,c,by omega,by omega⟩) (λq hq=>⟨Ex.B1j Oq hq,F6.zL (Sg.pat q hq),(Sg.pat q hq).txt,by
     have h1:=F6.TY q;have h2:=JA (zwq (f:=F6.V4) hq);have h3:=e.uf;omega⟩) (by omega) E0 hV (by omega) rfl hr
    have e2':C8.r Ii [(.undef,.ptr t 0),(e.D9,.val),(iN A9,.val),(.list 3 (l.map EN.D9),.val),(.undef,.ptr p 0)] K4=_:=e2;simp only[e2',I7,z0q]at st;exact fin _ _ _ _ s2 _ _ m2 h2 st hb
   by_cases g12:e.E8=15
   ·have hb:T9 (M5 f) w0 e A9 l=((((L6 (M5 f) w0 (e.kd 0) A9 l).1.put e.a).1).agree (L6 (M5 f) w0 (e.kd 0) A9 l).2 ((L6 (M5 f) w0 (e.kd 0) A9 l).1.put e.a).2 (e.kd 0),((L6 (M5 f) w0 (e.kd 0) A9 l).1.put e.a).2):=by unfold T9;rw[A7 g1,A7 g2,A7 g3,A7 g4,A7 g5,A7 g6,A7 g7,A7 g8,A7 g9,A7 g10,A7 g11,C9 g12]
    rw[hb]at hr;have st:=(sQ (by omega)).trans c20;rw[A7 (by omega),A7 (by omega),A7 (by omega),A7 (by omega),A7 (by omega),A7 (by omega),C9 (by omega)]at st;have nn:e.D5.length=1:=by simp[g12,M6]at k3;omega
    obtain⟨a1,a2⟩:=W9 (w:=w0) (l:=l) (VO 0 (by omega)).good (VO 0 (by omega)).sz I0 E0;have Pa:=Fb (l:=l) (e:=e) A M0 I0 (idx:=0) (by omega) (VO 0 (by omega)) E0 hV (by simp[w0]);generalize L6 (M5 f) w0 (e.kd 0) A9 l=a at a1 a2 Pa hr hb;obtain⟨n1,n2⟩:=WR a1.i (na.2 g12);have Pn:=λsg' (h':Bb true b i t p (p+1) a.1 sg')=>A2S h' A a1.i.ok (na.2 g12) (by omega) Sg.a;generalize a.1.put e.a=n at n1 n2 Pn hr hb;have r1:=n1.ext.J6;have r2:=(V8 n1.i (a:=a.2) (b:=n.2) (n1.lt a2) n2 (e.kd 0)).ext.J6;have hr:(n.1.agree a.2 n.2 (e.kd 0)).s.J6+10<2 ^ 62:=hr;obtain⟨s1,e1,m1,h1⟩:=Pa (by omega);obtain⟨s2,e2,m2,h2⟩:=Pn s1 m1;obtain⟨s3,e3,m3,h3⟩:=Db m2 A n1.i.ok (x:=a.2) (y:=n.2) (n1.lt a2) n2 (e.kd 0) hr;simp only[z0,Uv (show 0<e.D5.length by omega),e1,I7,z0q,Mo,e2,e3]at st;exact fin _ _ _ _ s3 _ _ m3 (h1.trans ((EP h2).trans (EP h3))) st hb
   have hb:T9 (M5 f) w0 e A9 l=(Ho (M5 f) A9 l (if e.op=7 then 2 else 0) e.D5 w0,if e.op=5\/e.op=6\/e.op=7 then 1 else 0):=by unfold T9;rw[A7 g1,A7 g2,A7 g3,A7 g4,A7 g5,A7 g6,A7 g7,A7 g8,A7 g9,A7 g10,A7 g11,A7 g12]
   rw[hb]at hr;have k16:e.E8=16:=by omega
   have st:=(sQ (by omega)).trans c20;rw[A7 (by omega),A7 (by omega),A7 (by omega),A7 (by omega),A7 (by omega),A7 (by omega),A7 (by omega),C9 (by omega)]at st;obtain⟨s2,e2,m2,h2⟩:=B9O (l:=l) (e:=e) A M0 I0 (λk hk=>by obtain⟨m,hm,rfl⟩:=zCq.1 hk;rw[Ex.kU hm];exact VO m hm) E0 hV rfl (by omega) hr
   have e2':C8.r Ld [(.undef,.ptr t 0),(e.D9,.val),(iN A9,.val),(.list 3 (l.map EN.D9),.val),(.undef,.ptr p 0)] K4=_:=e2;simp only[e2',I7,z0q]at st;exact fin _ _ _ _ s2 _ _ m2 h2 st hb
end Go.Su

/-
 Inference in memory: what is read.
-/
namespace Go.Su
set_option linter.defProp false
section
variable {b i t:Nat}
def KE.rd{w:W}{sg:List E5}(h:KE b i t w sg)(ok:w.s.Ok){n:Nat}(hn:n<w.s.l.length):
 ∃s1 s2,C8.r Ha [(.undef,.ptr b 0),(iN n,.val)] sg=some ([(w.s.read n).2.1.D9,iN (w.s.read n).2.2],s1)/\C8.r R6 [(.undef,.ptr t 0),(iN (w.s.read n).2.2,.val),(U1.D9,.val)] s1=some ([],s2)/\KE b i t (w.rd n) s2/\Kx [b,i,t] sg s2:=by
 obtain⟨s1,e1,a1,k1⟩:=B7i h.st ok hn;obtain⟨s2,e2,a2,k2⟩:=bS (h.kp k1 a1) (w.s.read n).2.2 U1;exact⟨s1,s2,e1,e2,a2,k1.k3.trans (k2.more (by intro x hx;simp only[znq,zhq,or_false]at hx ⊢;omega))⟩
def B8u(l:List DD):N9 (.list 4 (l.map DD.D9))=some (iN l.length):=by simp[iN]
def B8p{l:List DD}{j:Nat}(h:j<l.length):M4 4 (.list 4 (l.map DD.D9)) (iN j)=some l[j].D9:=R7 h
def B5F(n:Nat)(ts vs:List Nat)(ks:List DD):A8 0 (DD.mk n ts vs ks).D9=iN n/\A8 1 (DD.mk n ts vs ks).D9=.list 1 (ts.map iN)/\A8 2 (DD.mk n ts vs ks).D9=.list 1 (vs.map iN)/\A8 3 (DD.mk n ts vs ks).D9=.list 4 (ks.map DD.D9):=by rw[DD.D9,A10];exact⟨rfl,rfl,rfl,rfl⟩
def Qp(y:Ty):DV.agg [A8 0 y.D9,A8 1 y.D9,A8 2 y.D9]=y.D9:=by simp[Ty.l6,Ty.ag]
mutual
theorem A7N:∀(d:DD)(w:W)(sg:List E5),KE b i t w sg->w.s.Ok->DD.lt w.s.l.length d->d.cnt<=2 ^ 30->
 ∃y sg',C8.r FJ [(.undef,.ptr t 0),(d.D9,.val)] sg=some ([Ty.D9 y],sg')/\KE b i t (AY d w) sg'/\Kx [b,i,t] sg sg'/\(w.err=0->∀n ts vs ks,d=.mk n ts vs ks->y=(w.s.read n).2.1)
 |.mk n ts vs ks,w,sg,h,ok,hl,hc=>by
   have start:=(gp t (DD.mk n ts vs ks).D9 sg).trans (jR _ _ _ _);obtain⟨p0,p1,p2,p3⟩:=B5F n ts vs ks;obtain⟨d1,d2⟩:=wB (.mk n ts vs ks);rw[DD.lt]at hl;obtain⟨s1,s2,e1,e2,t2,k2⟩:=h.rd ok hl.1;simp only[d2,F8,JK h,I7,z0q,U4,F3,h.box,Jd,p0,p3,e1,Od,Oe,Y9,<- TR,e2,B8u]at start;rw[AY];by_cases g:w.err=0
   ·rw[A7 (λh=>h g)];simp only[g,K3,z4q,z1q,G8]at start;obtain⟨a1,a2,a3,a4⟩:=oI ok n;rw[DD.cnt]at hc;obtain⟨bP,e3,t3,k3⟩:=A3T ks (w.s.read n).2.1 ks (w.rd n) s2 0 (by rw[zbq]) t2 a1 (by rw[a2];exact hl.2.2.2) (by omega) (by have:=lh ks;omega) (iI 0) (iI 0) (.list 3 []);exact⟨(w.s.read n).2.1,bP,start.trans e3,t3,k2.trans k3,λ_ n' ts' vs' ks' h=>by cases h;rfl⟩
   ·rw[C9 g];simp only[g,R8,zcq,F5]at start;exact⟨zTy,sg,by rw[start,A98],h,Kx.refl _,λh=>absurd h g⟩
theorem A3T:∀(qs:List DD)(y:Ty)(ks:List DD)(w:W)(sg:List E5)(j:Nat),qs=ks.drop j->KE b i t w sg->w.s.Ok->DD.Yj w.s.l.length qs->DD.EJ qs<=2 ^ 30->ks.length<2 ^ 31->∀z0 z1 z2:DV,
 ∃sg',Fz C8 t (.list 4 (ks.map DD.D9)) (iN ks.length) (iN j) z0 z1 z2 y.D9 sg=some ([y.D9],sg')/\KE b i t (K_ qs w) sg'/\Kx [b,i,t] sg sg'
 |[],y,ks,w,sg,j,hq,h,ok,hl,hc,Hf,z0,z1,z2=>by
   have hj:ks.length<=j:=by have:=congrArg List.length hq;simp only[z8q,zoq]at this;omega
   rw[K_,PU];simp only[Af,I7,F3,I4];rw[A7 (by omega)];simp only[Qp];exact⟨sg,rfl,h,Kx.refl _⟩
 |k::qs,y,ks,w,sg,j,hq,h,ok,hl,hc,Hf,z0,z1,z2=>by
   have hj:j<ks.length:=by have:=congrArg List.length hq;simp only[zdq,zoq]at this;omega
   rw[z3q hj]at hq;simp only[List.cons.injEq]at hq;obtain⟨hk,hqs⟩:=hq;rw[DD.Yj]at hl;rw[DD.EJ]at hc;obtain⟨y',s1,e1,t1,k1,-⟩:=A7N k w sg h ok hl.1 (by omega);obtain⟨a1,-⟩:=eX k w ok;have a2:(AY k w).s.l.length=w.s.l.length:=by rw[a1.l]
   obtain⟨s2,e2,t2,k2⟩:=A3T qs y ks (AY k w) s1 (j+1) hqs t1 a1.ok (by rw[a2];exact hl.2) (by omega) Hf z0 z1 z2;refine⟨s2,?_,by rw[K_];exact t2,k1.trans k2⟩;rw[PU];simp only[Af,I7,F3,hj,K3,F5,B8p hj,<- hk,(wB k).1,e1,addN (show j<2 ^ 62 by omega)]
   exact e2
end
theorem encI(l:List Nat):DV.list 1 (l.map iN)=O6 (l.map Int.ofNat):=by
 simp only[O6,List.map_map]
 try rfl
def B3Z{o:List Ty}{y:Ty}(h:o.length<2 ^ 31):Di 3 (.list 3 (o.map Ty.D9)) (.list 3 [y.D9])=some (.list 3 ((o++[y]).map Ty.D9)):=by rw[JP (by simp[Q8];omega)];simp
def B7E{o:List K8}{y:K8}(h:o.length<2 ^ 31):Di 3 (.list 3 (o.map K8.D9)) (.list 3 [y.D9])=some (.list 3 ((o++[y]).map K8.D9)):=by rw[JP (by simp[Q8];omega)];simp
def B91(b i t:Nat)(sg:List E5)(r:Option (List DV×List E5))(w:W)(d:K8):Prop:=∃y sg',r=some ([K8.D9 y],sg')/\KE b i t w sg'/\Kx [b,i,t] sg sg'/\(w.err=0->y=d)
theorem B1p{d:DV}{vs:List Nat}{ts:List Nat}(z0 z1 z2:DV):∀(qs:List Nat)(j:Nat)(o:List Ty)(w:W)(sg:List E5),qs=ts.drop j->KE b i t w sg->w.s.Ok->(∀x∈qs,x<w.s.l.length)->o.length<=w.s.cnt->o.length=j->
 (∃y sg',Cr C8 t (.list 1 (ts.map iN)) (iN ts.length) (iN j) d z0 z1 z2 (.list 3 (o.map Ty.D9)) (.list 1 (vs.map iN)) sg=some ([K8.D9 y],sg')/\KE b i t (Az qs w).1 sg'/\Kx [b,i,t] sg sg'/\(Az qs w).1.err≠0) \/
 ∃sg',Cr C8 t (.list 1 (ts.map iN)) (iN ts.length) (iN j) d z0 z1 z2 (.list 3 (o.map Ty.D9)) (.list 1 (vs.map iN)) sg=Cr C8 t (.list 1 (ts.map iN)) (iN ts.length) (iN ts.length) d z0 z1 z2 (.list 3 ((o++(Az qs w).2).map Ty.D9)) (.list 1 (vs.map iN)) sg'/\KE b i t (Az qs w).1 sg'/\Kx [b,i,t] sg sg':=by
 intro qs;induction qs with
 |nil=>
   intro j o w sg hq h ok hl ho hoj;right;have hj:ts.length<=j:=by have:=congrArg List.length hq;simp only[z8q,zoq]at this;omega
   refine⟨sg,?_,h,Kx.refl _⟩;by_cases e:j=ts.length
   ·rw[e];simp[Az]
   ·rw[Dq,Dq];simp only[Af,I7,F3,I4];rw[A7 (by omega),A7 (by omega)];simp[Az]
 |cons n qs ih=>
   intro j o w sg hq h ok hl ho hoj;have hj:j<ts.length:=by have:=congrArg List.length hq;simp only[zdq,zoq]at this;omega
   rw[z3q hj]at hq;simp only[List.cons.injEq]at hq;obtain⟨hn,hqs⟩:=hq;have start:=Dq C8 t (.list 1 (ts.map iN)) (iN ts.length) (iN j) d z0 z1 z2 (.list 3 (o.map Ty.D9)) (.list 1 (vs.map iN)) sg;obtain⟨s1,s2,e1,e2,t2,k2⟩:=h.rd ok (hl n (zAq ..));have oc:=ok.cm;have om:=ok.mm;simp only[Af,I7,F3,hj,K3,F5,IE hj,<- hn,Bf,F8,JK h,z0q,U4,h.box,Jd,e1,Od,Oe,Y9,<- TR,e2,Qp,B3Z (show o.length<2 ^ 31 by omega),addN (show j<2 ^ 62 by omega)]at start;rw[Az];by_cases g:w.err=0
   ·rw[A7 (λh=>h g)];simp only[g,K3,z4q,z1q,G8]at start;obtain⟨a1,a2,a3,a4⟩:=oI ok n;have e:(({ w with s:=(w.s.read n).1 }:W).fails (w.s.read n).2.2 U1)=w.rd n:=rfl;rw[e];by_cases ge:(w.rd n).err=0
    ·obtain⟨-,-,a5⟩:=a4 ge;rcases ih (j+1) (o++[(w.s.read n).2.1]) (w.rd n) s2 hqs t2 a1 (λx hx=>by rw[a2];exact hl x (zsq _ hx)) (by simp only[zgq,zdq,z8q];omega) (by simp only[zgq,zdq,z8q];omega)with⟨y,sg',x1,x2,x3,x4⟩ | ⟨sg',x1,x2,x3⟩
     ·exact .inl ⟨y,sg',start.trans x1,x2,k2.trans x3,x4⟩
     ·exact .inr ⟨sg',by rw[start,x1];simp,x2,k2.trans x3⟩
    ·-- something went wrong: the rest does nothing
     cases qs with
     |nil=>
       right;have O8:j+1=ts.length:=by have:=congrArg List.length hqs;simp only[z8q,zoq]at this;omega
       exact⟨s2,by rw[start,O8];simp[Az],t2,k2⟩
     |cons m qs=>
       left;have FQ:j+1<ts.length:=by have:=congrArg List.length hqs;simp only[zdq,zoq]at this;omega
       have st2:=Dq C8 t (.list 1 (ts.map iN)) (iN ts.length) (iN (j+1)) d z0 z1 z2 (.list 3 ((o++[(w.s.read n).2.1]).map Ty.D9)) (.list 1 (vs.map iN)) s2;simp only[Af,I7,F3,FQ,K3,F5,IE FQ,Bf,F8,JK t2,z0q,U4,ge,R8,zcq]at st2;have rt:Az (m::qs) (w.rd n)=(w.rd n,[]):=by rw[Az,C9 ge]
       refine⟨.mk (o++[(w.s.read n).2.1]) (vs.map Int.ofNat) [],s2,?_,by rw[rt];exact t2,k2,by rw[rt];exact ge⟩;rw[start,st2,K8.O4,encI];rfl
   ·rw[C9 g];simp only[g,R8,zcq,F5]at start;left;refine⟨.mk o (vs.map Int.ofNat) [],sg,?_,h,Kx.refl _,g⟩;rw[start,K8.O4,encI];rfl
def vB:∀(ks:List DD)(w:W),w.err≠0->True/\(C_ ks w).1=w/\True
 |[],w,_=>⟨trivial,rfl,trivial⟩
 |k::ks,w,h=>by rw[C_,C9 h];exact⟨trivial,rfl,trivial⟩
mutual
theorem A3M:∀(d:DD)(w:W),w.s.Ok->ig w (BP d w).1/\True/\True
 |.mk m ts vs ks,w,ok=>by rw[BP];obtain⟨a1,-⟩:=oJ ts w ok;exact⟨a1.trans (A3L ks _ a1.ok),trivial,trivial⟩
theorem A3L:∀(ks:List DD)(w:W),w.s.Ok->ig w (C_ ks w).1
 |[],w,ok=>⟨ok,rfl,zeq _⟩
 |k::ks,w,ok=>by
   rw[C_];split
   ·exact⟨ok,rfl,zeq _⟩
   ·obtain⟨a1,-⟩:=A3M k w ok;exact a1.trans (A3L ks _ a1.ok)
end
def A4W(y:K8):DV.agg [A8 0 y.D9,A8 1 y.D9,A8 2 y.D9]=y.D9:=by simp[K8.l6,K8.ag]
mutual
theorem A9Y:∀(d:DD)(w:W)(sg:List E5),KE b i t w sg->w.s.Ok->DD.lt w.s.l.length d->d.cnt<=2 ^ 30->B91 b i t sg (C8.r GI [(.undef,.ptr t 0),(d.D9,.val)] sg) (BP d w).1 (BP d w).2
 |.mk n ts vs ks,w,sg,h,ok,hl,hc=>by
   have start:=(jy t (DD.mk n ts vs ks).D9 sg).trans (mO _ _ _ _);obtain⟨p0,p1,p2,p3⟩:=B5F n ts vs ks;obtain⟨d1,d2⟩:=wB (.mk n ts vs ks);rw[DD.lt]at hl;rw[DD.cnt]at hc;have il:J2 (DV.list 1 (vs.map iN))=true:=rfl;simp only[d2,F8,p1,p2,il,Sk,I7]at start;obtain⟨a1,a2⟩:=oJ ts w ok;rw[BP];rcases B1p (b:=b) (i:=i) (t:=t) (d:=(DD.mk n ts vs ks).D9) (vs:=vs) (ts:=ts) (.list 3 []) (.list 1 []) (.list 3 []) ts 0 [] w sg rfl h ok hl.2.1 (by simp) rfl with⟨y,s1,e1,t1,k1,g⟩ | ⟨s1,e1,t1,k1⟩
   ·obtain⟨c1,c0,c2⟩:=vB ks (Az ts w).1 g;refine⟨y,s1,start.trans e1,by simp only;rw[c0];exact t1,k1,λh=>?_⟩;simp only at h;rw[c0]at h;exact absurd h g
   ·rw[zrq]at e1;have st2:=Dq C8 t (.list 1 (ts.map iN)) (iN ts.length) (iN ts.length) (DD.mk n ts vs ks).D9 (.list 3 []) (.list 1 []) (.list 3 []) (.list 3 ((Az ts w).2.map Ty.D9)) (.list 1 (vs.map iN)) s1;simp only[Af,zkq,R8,I7,F3,z1q,G8,p3,B8u]at st2;have GZ:=lh ks;obtain⟨y,s2,e2,t2,k2,x2⟩:=A7S ks (Az ts w).2 vs ks [] (Az ts w).1 s1 0 rfl t1 a1.ok (by rw[a1.l];exact hl.2.2.2) (by omega) (by omega) rfl (.list 3 []) (.list 1 []) (.list 3 []);exact⟨y,s2,start.trans (e1.trans (st2.trans e2)),t2,k1.trans k2,λh=>by rw[x2 h];simp⟩
theorem A7S:∀(qs:List DD)(tys:List Ty)(vs:List Nat)(ks:List DD)(o:List K8)(w:W)(sg:List E5)(j:Nat),qs=ks.drop j->KE b i t w sg->w.s.Ok->DD.Yj w.s.l.length qs->DD.EJ qs<=2 ^ 30->ks.length<2 ^ 31->o.length=j->∀z0 z1 z2:DV,
 ∃y sg',F_ C8 t (.list 4 (ks.map DD.D9)) (iN ks.length) (iN j) z0 z1 z2 (.list 3 (tys.map Ty.D9)) (.list 1 (vs.map iN)) (.list 3 (o.map K8.D9)) sg=some ([K8.D9 y],sg')/\KE b i t (C_ qs w).1 sg'/\Kx [b,i,t] sg sg'/\((C_ qs w).1.err=0->y=.mk tys (vs.map Int.ofNat) (o++(C_ qs w).2))
 |[],tys,vs,ks,o,w,sg,j,hq,h,ok,hl,hc,Hf,hoj,z0,z1,z2=>by
   have hj:ks.length<=j:=by have:=congrArg List.length hq;simp only[z8q,zoq]at this;omega
   rw[C_,PV];simp only[Af,I7,F3,I4];rw[A7 (by omega)];exact⟨.mk tys (vs.map Int.ofNat) o,sg,by rw[K8.O4,encI];rfl,h,Kx.refl _,λ_=>by simp⟩
 |k::qs,tys,vs,ks,o,w,sg,j,hq,h,ok,hl,hc,Hf,hoj,z0,z1,z2=>by
   have hj:j<ks.length:=by have:=congrArg List.length hq;simp only[zdq,zoq]at this;omega
   rw[z3q hj]at hq;simp only[List.cons.injEq]at hq;obtain⟨hk,hqs⟩:=hq;rw[DD.Yj]at hl;rw[DD.EJ]at hc;have start:=PV C8 t (.list 4 (ks.map DD.D9)) (iN ks.length) (iN j) z0 z1 z2 (.list 3 (tys.map Ty.D9)) (.list 1 (vs.map iN)) (.list 3 (o.map K8.D9)) sg;simp only[Af,I7,F3,hj,K3,F5,B8p hj,<- hk,JK h,z0q,U4,(wB k).1]at start;rw[C_];by_cases g:w.err=0
   ·rw[A7 (λh=>h g)];simp only[g,K3,z4q,z1q,G8]at start;obtain⟨y,s1,e1,t1,k1,x1⟩:=A9Y k w sg h ok hl.1 (by omega);obtain⟨a1,-,-⟩:=A3M k w ok;have a2:(BP k w).1.s.l.length=w.s.l.length:=by rw[a1.l]
    obtain⟨y2,s2,e2,t2,k2,x2⟩:=A7S qs tys vs ks (o++[y]) (BP k w).1 s1 (j+1) hqs t1 a1.ok (by rw[a2];exact hl.2) (by omega) Hf (by simp[hoj]) z0 z1 z2;refine⟨y2,s2,?_,t2,k1.trans k2,λh=>?_⟩
    ·simp only[e1,I7,z0q,Jl,F8,B7E (show o.length<2 ^ 31 by omega),addN (show j<2 ^ 62 by omega)]at start;exact start.trans e2
    ·have h':(C_ qs (BP k w).1).1.err=0:=h;have e0:(BP k w).1.err=0:=by
      by_cases e0:(BP k w).1.err=0
      ·exact e0
      ·rw[(vB qs _ e0).2.1]at h';exact h'
     rw[x2 h',x1 e0];simp
   ·rw[C9 g];simp only[g,R8,zcq,F5]at start;exact⟨.mk tys (vs.map Int.ofNat) o,sg,by rw[start,K8.O4,encI];rfl,h,Kx.refl _,λh=>absurd h g⟩
end
end
end Go.Su

/-
 Inference in memory: variables get their numbers; a run.
-/
namespace Go.Su
set_option linter.defProp false
structure Gn(es:List (DV×DV))(N:List Int):Prop where
 get:∀v:Int,Y0 es (iI v)=if v∈N then some (iI (N.idxOf v:Nat))else none
 len:es.length=N.length
def A6I:∀(es:List (DV×DV))(k v:DV),Y0 es k=none->(Bz es k v).length=es.length+1
 |[],k,v,_=>rfl
 |e::es,k,v,h=>by
   unfold Y0 at h;rw[ygq]at h;rw[Bz];by_cases g:FT k e.1=true
   ·rw[g]at h;simp at h
   ·have g':FT k e.1=false:=by simpa using g
    rw[g']at h;rw[A7 g,zdq,A6I es k v (by unfold Y0;exact h),zdq]
def A6R(N:List Int)(v:Int):List Int:=if v∈N then N else N++[v]
theorem B2V(v:Int)(vs N:List Int):Da (v::vs) N=Da vs (A6R N v):=rfl
variable {es:List (DV×DV)}{N:List Int}
def Gn.met(h:Gn es N){v:Int}(hv:v∉N):Gn (Bz es (iI v) (iI (N.length:Nat))) (A6R N v):=by
 have e:A6R N v=N++[v]:=A7 hv;have g:=h.get v;rw[A7 hv]at g;refine⟨λc=>?_,by rw[A6I _ _ _ g,h.len,e];simp⟩;rw[uW,e];by_cases hc:v=c
 ·subst hc;rw[C9 rfl,C9 (by simp),yaq,A7 hv];simp
 ·rw[A7 hc,h.get c];by_cases hm:c∈N
  ·rw[C9 hm,C9 (by simp[hm]),yaq,C9 hm]
  ·rw[A7 hm,A7 (by simp[hm,Ne.symm hc])]
variable {m:Nat}{sg:List E5}
def B7p(hm:R9 sg m=some (false,es))(h:Gn es N)(v:Int):∃es',C8.r De [(.undef,.map m),(iI v,.val)] sg=some ([],sg.set m (.map false es'))/\Gn es' (A6R N v):=by
 have start:=(gU m (iI v) sg).trans (jL _ _ _ _);have ik:j4 false (iI v)=true:=rfl;have ml:A1j sg (.map m)=some N.length:=by show(ob (R9 sg m) λp=>some p.2.length)=_;rw[hm,I7,h.len]
 simp only[ik,zmq,F8,hm,I7,beq_self_eq_true,h.get,U4,F3,ml,A1N]at start;by_cases g:v∈N
 ·simp only[g,F5,zuq,z4q,z1q,G8]at start;exact⟨es,by rw[start,NM hm],by unfold A6R;rw[C9 g];exact h⟩
 ·simp only[g,G8,ztq,zcq,F5,yjq,F8]at start;exact⟨_,start,h.met g⟩
def TW(h:R9 sg m=some (false,es)):m<sg.length:=(z6q.1 (bQ h)).1
def A2B{X:Type}{P:Nat->List E5->Option X}{vs:List Int}(step:∀(j:Nat)(h:j<vs.length)(sg:List E5)(sg':List E5),C8.r De [(.undef,.map m),(iI vs[j],.val)] sg=some ([],sg')->P j sg=P (j+1) sg'):∀(q j:Nat)(sg:List E5)(es:List (DV×DV))(N:List Int),j+q=vs.length->R9 sg m=some (false,es)->Gn es N->
 ∃es',P j sg=P vs.length (sg.set m (.map false es'))/\Gn es' (Da (vs.drop j) N):=by
 intro q;induction q with
 |zero=>intro j sg es N hj hm h;rw[z9q (by omega),show j=vs.length by omega];exact⟨es,by rw[NM hm],h⟩
 |succ q ih=>
   intro j sg es N hj hm h;have O8:j<vs.length:=by omega
   obtain⟨es1,e1,h1⟩:=B7p hm h vs[j];obtain⟨es2,e2,h2⟩:=ih (j+1) _ es1 _ (by omega) (EZ (TW hm) es1) h1;rw[zxq]at e2;exact⟨es2,(step j O8 sg _ e1).trans e2,by rw[z3q O8,B2V];exact h2⟩
def B0W{l:List Int}{j:Nat}(h:j<l.length):M4 1 (O6 l) (iN j)=some (iI l[j]):=R7 h
def B03(l:List Int):N9 (O6 l)=some (iN l.length):=B2l l
def B5M{l:List K8}{j:Nat}(h:j<l.length):M4 3 (.list 3 (l.map K8.D9)) (iN j)=some l[j].D9:=R7 h
def B5P(l:List K8):N9 (.list 3 (l.map K8.D9))=some (iN l.length):=by simp[iN]
def bW{t:Ty}(h:t.size<=65536):t.thin=true/\t.Du<=Q8/\t.D5.length<=65536/\t.vars.length<=65536:=by refine⟨Ty.ET (by unfold Q8;omega),zGq t.iR (by unfold Q8;omega),?_,by have:=t.pK [];simp only[z8q]at this;unfold Ty.vars;omega⟩;have:=t.size_eq;have:=A2y (l:=t.D5) (f:=Ty.size) Ty.Sn;omega
def B3L{l1 l2 l3:DV}{b3:DV}{t:Ty}(ht:t.size<=65536)(hm:R9 sg m=some (false,es))(h:Gn es N):
 ∃es',Z4 C8 m l1 l2 l3 (O6 t.vars) (iN t.vars.length) (iN 0) b3 sg=Z4 C8 m l1 l2 l3 (O6 t.vars) (iN t.vars.length) (iN t.vars.length) b3 (sg.set m (.map false es'))/\Gn es' (Da t.vars N):=by
 obtain⟨-,-,-,hv⟩:=bW ht;have:=A2B (m:=m) (P:=λj sg=>Z4 C8 m l1 l2 l3 (O6 t.vars) (iN t.vars.length) (iN j) b3 sg) (vs:=t.vars) (λj hj sg sg' e=>by show Z4 C8 m l1 l2 l3 (O6 t.vars) (iN t.vars.length) (iN j) b3 sg=Z4 C8 m l1 l2 l3 (O6 t.vars) (iN t.vars.length) (iN (j+1)) b3 sg';rw[Oi];simp only[Af,I7,F3,hj,K3,F5,B0W hj,ZF,F8,e,addN (show j<2 ^ 62 by omega)]) t.vars.length 0 sg es N (by omega) hm h
 rw[zbq]at this;exact this
def B3z(d:K8):Vo d->∀(sg:List E5)(es:List (DV×DV))(N:List Int),R9 sg m=some (false,es)->Gn es N->
 ∃es',C8.r Hu [(.undef,.map m),(d.D9,.val)] sg=some ([],sg.set m (.map false es'))/\Gn es' (nY d N):=by
 induction d using K8.ind with
 |h d ih=>
   intro hd sg es N hm h;obtain⟨d1,d2,d3,d4,d5⟩:(∀t∈d.types,t.size<=65536)/\d.types.length<=70000/\d.vars.length<2 ^ 29/\d.D5.length<=70000/\∀k∈d.D5,Vo k:=by cases hd with | mk _ a1 a2 a3 a4 a5=>exact⟨a1,a2,a3,a4,a5⟩
   have start:=(b_ m d.D9 sg).trans (gM _ _ _ _);simp only[Jl,F8,K8.Bh,A2x,I7]at start;have ty:∀(q j:Nat)(sg:List E5)(es:List (DV×DV))(N:List Int),j+q=d.types.length->R9 sg m=some (false,es)->Gn es N->
    ∃es',CE C8 m (.list 3 (d.types.map Ty.D9)) (iN d.types.length) (iN j) d.D9 sg=CE C8 m (.list 3 (d.types.map Ty.D9)) (iN d.types.length) (iN d.types.length) d.D9 (sg.set m (.map false es'))/\Gn es' ((d.types.drop j).foldl (λN t=>Da t.vars N) N):=by
    intro q;induction q with
    |zero=>intro j sg es N hj hm h;rw[z9q (by omega),show j=d.types.length by omega];exact⟨es,by rw[NM hm],h⟩
    |succ q ihq=>
      intro j sg es N hj hm h;have O8:j<d.types.length:=by omega
      have hz:=d1 _ (z7q O8);obtain⟨h1,h2,-,h4⟩:=bW hz;obtain⟨es1,e1,g1⟩:=B3L (m:=m) (l1:=.list 3 (d.types.map Ty.D9)) (l2:=iN d.types.length) (l3:=iN j) (b3:=d.D9) hz hm h;obtain⟨es2,e2,g2⟩:=ihq (j+1) _ es1 _ (by omega) (EZ (TW hm) es1) g1;rw[zxq]at e2;refine⟨es2,?_,by rw[z3q O8,List.foldl_cons];exact g2⟩;rw[Oh];simp only[Af,I7,F3,O8,K3,F5,A6A O8,Qp,yg _ h1 h2,B03];have Ie:Z4 C8 m (.list 3 (d.types.map Ty.D9)) (iN d.types.length) (iN j) (O6 d.types[j].vars) (iN d.types[j].vars.length) (iI 0) d.D9 sg=_:=e1;rw[Ie,Oi];simp only[Af,zkq,R8,I7,F3,z1q,G8,addN (show j<2 ^ 62 by omega)]
      exact e2
   obtain⟨es1,e1,g1⟩:=ty d.types.length 0 sg es N (by omega) hm h;rw[zbq]at g1;have Rq:=EZ (TW hm) es1;have vl:=A2B (m:=m) (P:=λj sg=>Au C8 m (O6 d.vars) (iN d.vars.length) (iN j) d.D9 sg) (vs:=d.vars) (λj hj sg sg' e=>by show Au C8 m (O6 d.vars) (iN d.vars.length) (iN j) d.D9 sg=Au C8 m (O6 d.vars) (iN d.vars.length) (iN (j+1)) d.D9 sg';rw[Nk];simp only[Af,I7,F3,hj,K3,F5,B0W hj,ZF,F8,e,addN (show j<2 ^ 62 by omega)]) d.vars.length 0 _ es1 _ (by omega) Rq g1
   obtain⟨es2,e2,g2⟩:=vl;rw[zbq]at g2;simp only[zxq]at e2;have kM:=EZ (TW hm) es2;have kl:∀(q j:Nat)(sg:List E5)(es:List (DV×DV))(N:List Int),j+q=d.D5.length->R9 sg m=some (false,es)->Gn es N->
    ∃es',Ez C8 m (.list 3 (d.D5.map K8.D9)) (iN d.D5.length) (iN j) sg=some ([],sg.set m (.map false es'))/\Gn es' (ZK (d.D5.drop j) N):=by
    intro q;induction q with
    |zero=>intro j sg es N hj hm h;rw[z9q (by omega),Nl,ZK];simp only[Af,I7,F3,I4];rw[A7 (by omega)];exact⟨es,by rw[NM hm],h⟩
    |succ q ihq=>
      intro j sg es N hj hm h;have O8:j<d.D5.length:=by omega
      have mem:=z7q O8;obtain⟨es1,e1,g1⟩:=ih _ mem (d5 _ mem) sg es N hm h;obtain⟨es2,e2,g2⟩:=ihq (j+1) _ es1 _ (by omega) (EZ (TW hm) es1) g1;rw[zxq]at e2;refine⟨es2,?_,by rw[z3q O8,ZK];exact g2⟩;rw[Nl];simp only[Af,I7,F3,O8,K3,F5,B5M O8,A4W,e1,addN (show j<2 ^ 62 by omega)]
      exact e2
   obtain⟨es3,e3,g3⟩:=kl d.D5.length 0 _ es2 _ (by omega) kM g2;rw[zbq]at g3;rw[zxq]at e3;refine⟨es3,?_,?_⟩
   ·have Ie:CE C8 m (.list 3 (d.types.map Ty.D9)) (iN d.types.length) (iI 0) d.D9 sg=_:=e1;rw[start,Ie,Oh];simp only[Af,zkq,R8,I7,F3,z1q,G8,K8.EC,B03];have e2':Au C8 m (O6 d.vars) (iN d.vars.length) (iI 0) d.D9 (sg.set m (.map false es1))=_:=e2;rw[e2',Nk];simp only[Af,zkq,R8,I7,F3,z1q,G8,K8.DN,B5P];exact e3
   ·cases d;rw[nY];exact g3
end Go.Su
