/-
  Parts of the proof, merged: SuM7, SuM8, SuM9, SuM10, SuM11, SuM12, SuX1, SuX2, SuX3, SuE1, SuE2, SuC1, SuT1, SuT2, SuC2, SuE3, SuE4, SuE5, SuE6, SuE7, SuE8, SuT3, SuT4, SuJ1, SuV1, SuV2, SuV3, SuY1, SuY2, SuY3, SuY4, SuY5, SuY6, SuWk, SuWk2, Cfg, It, K0, J0, G1, G2, G3, G4, G5, G6, G7.
-/
import Derived.Handy
import Derived.KernelRfl
import Derived.LoopNIn
import Derived.OwnWalkIn
import Derived.RangeFuncBound
import Derived.RangeFuncKeeps
import Derived.RangeFuncLeaves
import Derived.Shelf.Abstract
import Derived.Shelf.Sort.Plain
import Derived.TacticsInMore
import Derived.Test.YtglacjdohajkeaaGreatProg
import Derived.Test.YtglacjdohajkeaaGreatRows
import Derived.WalkKit
import Derived.Test.YtglacjdohajkeaaGreatQ3
set_option linter.unusedVariables false
set_option linter.unusedSimpArgs false
/-
 The CHECKER of terms, A8 by A8.
-/
open Array renaming replicate_succ → zoq, replicate_zero → zpq
open Bool renaming and_eq_true → z0q, not_eq_true' → zwq, or_eq_true → zHq, true_and → y0q
open List renaming getElem?_eq_getElem → z1q, mem_append → z2q, mem_cons_of_mem → z3q, getD_eq_getElem?_getD → z4q, mem_cons_self → z5q, all_eq_true → z6q, eq_nil_of_length_eq_zero → z7q, getElem_mem → z9q, length_cons → zaq, length_nil → zbq, getElem?_cons_zero → zcq, mem_cons → zdq, length_append → zeq, mem_of_getElem? → zfq, map_cons → zgq, mem_singleton → zhq, mem_iff_getElem → ziq, getElem?_eq_some_iff → zjq, mem_map → zkq, not_mem_nil → zlq, count_eq_zero_of_not_mem → zmq, append_toArray → zqq, mem_of_find?_eq_some → zrq, of_mem_zip → zsq, drop_eq_getElem_cons → ztq, sum_cons → zuq, pairwise_cons → zvq, length_eq_zero_iff → zxq, getElem?_map → zyq, append_assoc → zzq, size_toArray → zAq, push_toArray → zBq, map_nil → zCq, mem_reverse → zDq, cons_append → zEq, length_filter_le → zGq, length_zip → zIq, nodup_iff_count → zJq, foldl_cons → zKq, getElem?_mapIdx → zLq, nil_append → zMq, count_pos_iff → zNq, find?_eq_none → zOq, zip_cons_cons → zPq, getElem?_drop → zQq, pairwise_map → zRq, zip_nil_left → zSq, getElem_zip → zTq, map_map → zUq, sum_nil → zWq, length_map → zXq, map_append → zYq
open Nat renaming zero_add → zFq, mul_add → zVq
open Option renaming map_some → z8q, bind_some → znq, getD_some → zZq
namespace Go.Su
set_option linter.defProp false
structure Tm.Own(t:Tm):Prop where
 lo:1<=t.A8
 hi:t.A8<=16
 C58:t.A8=14->0<t.H8.length
 D6:(t.D6.length:Int)=R7 t.A8 t.H8.length
 name:U2 t.A8=true->Dt t.name=true
 arg:Y7 t.A8=true->Dt t.arg=true
 a:kA t.A8=true->t.a.right=true
 b:kB t.A8=true->t.b.right=true
 a0:kA t.A8=false->t.a=O5
 b0:kB t.A8=false->t.b=O5
 op:BU t.A8=true->1<=t.op/\t.op<=7
 C9z:U9 t.A8=false->t.vars=[]
 C9r:V5 t.A8=false->t.args=[]
 C9y:U8 t.A8=false->t.H8=[]
 vars:∀v∈t.vars,0<=v/\v<=1048576
 args:∀y∈t.args,y.right=true
 H8:∀p∈t.H8,p.right=true
variable {t:Tm}
def Tm.C6j(h:t.one=true):t.Own:=by
 simp only[Tm.one,Tm.Kv,Tm.LW,Tm.LX,Tm.Mc,Tm.Nj,Tm.lists,Cy,Ap,z8,z0q,zHq,zwq,F5,Q8,z6q]at h;obtain⟨⟨⟨⟨⟨⟨⟨⟨k1,k2⟩,k3⟩,k4⟩,k5⟩,k6⟩,k7⟩,k8⟩,⟨k9,k10⟩,⟨⟨k11,k12⟩,k13⟩,⟨k14,k15⟩,⟨k16,k17⟩,⟨⟨k18,k19⟩,k20⟩,⟨k21,k22⟩,k23⟩:=h;refine⟨k1,k2,λh=>?_,k4,λh=>?_,λh=>?_,λh=>?_,λh=>?_,λh=>?_,λh=>?_,λh=>?_,λh=>?_,λh=>?_,λh=>?_,k21,k22,k23⟩
 ·rcases k3 with k3 | k3
  ·exact absurd h k3
  ·exact k3
 ·simpa[h]using k5
 ·simpa[h]using k6
 ·simpa[h]using k7
 ·simpa[h]using k8
 ·rw[h]at k7;exact Ty.A7b.1 (by simpa using k7)
 ·rw[h]at k8;exact Ty.A7b.1 (by simpa using k8)
 ·simpa[h]using k14
 ·rw[h]at k18;exact z7q (by simpa using k18)
 ·rw[h]at k19;exact z7q (by simpa using k19)
 ·rw[h]at k20;exact z7q (by simpa using k20)
def Tm.EH(h:t.right=true):t.Own:=by rw[Tm.right_eq]at h;simp only[z0q]at h;exact Tm.C6j h.1
def Tm.M8{k:Tm}(h:t.right=true)(hk:k∈t.D6):k.right=true:=by rw[Tm.right_eq]at h;simp only[z0q,z6q]at h;exact h.2 k hk
def Tm.B24(h:t.right=true)(hk:t.A8=9\/t.A8=16):∃a,t.D6=[a]:=by
 have:=(Tm.EH h).D6;have h1:t.D6.length=1:=by rcases hk with hk | hk<;>(rw[hk]at this;simp[R7]at this;omega)
 exact List.length_eq_one_iff.1 h1
def Tm.YC(h:t.right=true)(hk:t.A8=6\/t.A8=8\/t.A8=10\/t.A8=11\/t.A8=12\/t.A8=15):∃a b,t.D6=[a,b]:=by
 have:=(Tm.EH h).D6;have h1:t.D6.length=2:=by rcases hk with hk | hk | hk | hk | hk | hk<;>(rw[hk]at this;simp[R7]at this;omega)
 match hx:t.D6,h1 with
 |[a,b],_=>exact⟨a,b,rfl⟩
def Tm.C20(h:t.right=true)(hk:t.A8=13):∃a b c,t.D6=[a,b,c]:=by
 have:=(Tm.EH h).D6;have h1:t.D6.length=3:=by rw[hk]at this;simp[R7]at this;omega
 match hx:t.D6,h1 with
 |[a,b,c],_=>exact⟨a,b,c,rfl⟩
def Tm.C21(h:t.right=true)(hk:t.A8=14):∃a l,t.D6=a::l/\l.length=t.H8.length:=by
 have:=(Tm.EH h).D6;have h1:t.D6.length=t.H8.length+1:=by rw[hk]at this;simp[R7]at this;omega
 match hx:t.D6,h1 with
 |a::l,h1=>exact⟨a,l,rfl,by simpa using h1⟩
def Tm.kinds(h:t.right=true):t.A8=1\/(t.A8=2\/t.A8=3\/t.A8=4\/t.A8=5)\/t.A8=6\/t.A8=7\/t.A8=8\/t.A8=9\/t.A8=10\/t.A8=11\/t.A8=12\/t.A8=13\/t.A8=14\/t.A8=15\/t.A8=16:=by have:=(Tm.EH h).lo;have:=(Tm.EH h).hi;omega
theorem B6D(h:t.A8=1)(l:List Nm)(S:List Int):ck t l S=match l.reverse.find? λx=>decide (x.name=t.name)with
 |none=>.error 6
 |some x=>if x.vars.length=t.args.length then if t.args.all (GD S)=true then .ok (x.ty.put (x.vars.zip t.args))else .error 6 else .error 8:=by
 rw[LF];unfold De;simp only[h,H5];try rfl
def A4j(h:t.A8=2\/t.A8=3\/t.A8=4\/t.A8=5)(l:List Nm)(S:List Int):ck t l S=.ok (.mk (t.A8-1) 0 []):=by rw[LF];unfold De;rw[C8 (by omega),D5 h]
def B3l(h:t.A8=7)(l:List Nm)(S:List Int):ck t l S=if GD S t.a=true then .ok (.mk 8 0 [t.a])else .error 6:=by rw[LF];unfold De;simp[h]
def B3j{k:Tm}(h:t.A8=9)(hk:t.D6=[k])(l:List Nm)(S:List Int):ck t l S=if GD S t.a=true then(ck k (l++[⟨t.name,t.a,[]⟩]) S).bind λy=>.ok (.mk 9 0 [t.a,y])else .error 6:=by rw[LF];unfold De;simp[h,hk]
def B3k{k m:Tm}(h:t.A8=11)(hk:t.D6=[k,m])(l:List Nm)(S:List Int):ck t l S=if takes S t.vars=true then(ck k l (t.vars++S)).bind λy=>ck m (l++[⟨t.name,y,t.vars⟩]) S else .error 6:=by rw[LF];unfold De;simp[h,hk]
def B3m{k m:Tm}(h:t.A8=12)(hk:t.D6=[k,m])(l:List Nm)(S:List Int):ck t l S=if takes S t.vars=true then
 if GD (t.vars++S) t.a=true/\GD (t.vars++S) t.b=true then
  (ck k (l++[⟨t.name,.mk 9 0 [t.a,t.b],[]⟩,⟨t.arg,t.a,[]⟩]) (t.vars++S)).bind λy=>if y=t.b then ck m (l++[⟨t.name,.mk 9 0 [t.a,t.b],t.vars⟩]) S else .error 4
 else .error 6
 else .error 6:=by
 rw[LF];unfold De;simp[h,hk]
def A6T{k:Tm}{ks:List Tm}(h:t.A8=14)(hk:t.D6=k::ks)(l:List Nm)(S:List Int):ck t l S=(ck k l S).bind λy=>CJ y l S (t.H8.zip (ks.map ck)) none:=by rw[LF];unfold De;simp[h,hk]
def Yo(h:t.A8=6\/t.A8=8\/t.A8=10\/t.A8=13\/t.A8=15\/t.A8=16)(l:List Nm)(S:List Int):ck t l S=(Aa l S (t.D6.map ck)).bind λk=>Ea t S k:=by rw[LF];unfold De;rw[C8 (by omega),C8 (by omega),C8 (by omega),C8 (by omega),C8 (by omega),C8 (by omega),C8 (by omega)]
def Nm.ok(x:Nm):Prop:=x.ty.right=true/\x.vars.length<=J9/\∀v∈x.vars,0<=v/\v<=1048576
def EQ(l:List Nm):Prop:=∀x∈l,x.ok
def EQ.app{l m:List Nm}(h:EQ l)(h':EQ m):EQ (l++m):=λx hx=>by
 rcases z2q.1 hx with hx | hx
 ·exact h x hx
 ·exact h' x hx
def EQ.one{x:Nm}(h:x.ok):EQ [x]:=λy hy=>by simp at hy;subst hy;exact h
def EQ.two{x y:Nm}(h:x.ok)(h':y.ok):EQ [x,y]:=λz hz=>by
 simp at hz;rcases hz with rfl | rfl
 ·exact h
 ·exact h'
def EQ.C5x{b:List (ByteArray×Ty)}(h:∀e∈b,e.2.right=true):EQ (b.map Em):=λx hx=>by obtain⟨e,he,rfl⟩:=zkq.1 hx;exact⟨h e he,by simp[Em],by simp[Em]⟩
def Nm.vW{n:ByteArray}{t:Ty}(h:t.right=true):(⟨n,t,[]⟩:Nm).ok:=⟨h,by simp,by simp⟩
def A3O{a b:Ty}(ha:a.right=true)(hb:b.right=true):(Ty.mk 9 0 [a,b]).right=true:=by rw[Ty.ma];refine⟨rfl,by omega,by omega,.inr rfl,?_⟩;simp[ha,hb]
def B8x{a b:Ty}(ha:a.right=true)(hb:b.right=true):(Ty.mk 7 0 [a,b]).right=true:=by rw[Ty.ma];refine⟨rfl,by omega,by omega,.inr rfl,?_⟩;simp[ha,hb]
def B8w{a:Ty}(ha:a.right=true):(Ty.mk 8 0 [a]).right=true:=by rw[Ty.ma];refine⟨rfl,by omega,by omega,.inr rfl,?_⟩;simp[ha]
theorem yJ{k:Int}(h:1<=k/\k<=5):(Ty.mk k 0 []).right=true:=by rw[Ty.ma];refine⟨?_,by omega,by omega,.inr rfl,by simp⟩;unfold X3;rw[D5 (by omega)];rfl
def h_{l:List Ty}(h:∀t∈l,t.right=true){i:Nat}(hi:i<l.length):(l.getD i O5).right=true:=by rw[z4q,z1q hi];exact h _ (z9q hi)
def Nu{l:List Nm}{S:List Int}:∀{ks:List Tm}{ys:List Ty},Aa l S (ks.map ck)=.ok ys->ys.length=ks.length/\∀y∈ys,∃k∈ks,ck k l S=.ok y
 |[],ys,h=>by simp only[zCq,Aa,Except.ok.injEq]at h;subst h;simp
 |k::ks,ys,h=>by
   simp only[zgq,Aa]at h;cases hk:ck k l S with
   |error e=>rw[hk]at h;cases h
   |ok y=>
     rw[hk]at h;simp only[Except.bind]at h;cases hr:Aa l S (ks.map ck)with
     |error e=>rw[hr]at h;cases h
     |ok r=>
       rw[hr]at h;simp only[Except.ok.injEq]at h;subst h;obtain⟨h1,h2⟩:=Nu hr;refine⟨by simp[h1],λz hz=>?_⟩;rcases zdq.1 hz with rfl | hz
       ·exact⟨k,z5q ..,hk⟩
       ·obtain⟨k',a,b⟩:=h2 z hz;exact⟨k',z3q _ a,b⟩
def Sg(ht:t.right=true)(hk:t.A8=6\/t.A8=8\/t.A8=10\/t.A8=13\/t.A8=15\/t.A8=16){S:List Int}{ys:List Ty}(hl:ys.length=t.D6.length)(hy:∀y∈ys,y.right=true){y:Ty}(h:Ea t S ys=.ok y):y.right=true:=by
 have own:=Tm.EH ht;unfold Ea at h;simp only at h;split at h
 ·rename_i h6;obtain⟨a,b,e⟩:=Tm.YC ht (.inl h6);rw[e]at hl
  match ys,hl with
  |[a,b],_=>cases h;exact B8x (hy _ (by simp)) (hy _ (by simp))
 split at h
 ·rename_i h8;obtain⟨a,b,e⟩:=Tm.YC ht (by omega);split at h
  ·cases h;exact h_ hy (by rw[hl,e];simp)
  ·cases h
 split at h
 ·rename_i h8;obtain⟨a,b,e⟩:=Tm.YC ht (by omega);split at h
  ·rename_i hx;cases h;have hr:=h_ hy (i:=0) (by rw[hl,e];simp);obtain⟨p,q,e2⟩:=A37 hr (.inr hx.1);refine h_ (λu hu=>Ty.M8 hr hu) (by rw[e2];simp)
  ·cases h
 split at h
 ·rename_i h8;obtain⟨a,b,c,e⟩:=Tm.C20 ht h8;split at h
  ·cases h;exact h_ hy (by rw[hl,e];simp)
  ·cases h
 split at h
 ·split at h
  ·split at h
   ·cases h;exact yJ (by omega)
   ·cases h
  ·split at h
   ·cases h;refine yJ ?_;split<;>omega
   ·cases h
 split at h
 ·rename_i lU;split at h
  ·split at h
   ·cases h;exact own.b (by rw[lU];rfl)
   ·cases h
  ·cases h
 ·cases h
def jg{y:Ty}(hy:y.right=true){l:List Nm}(hl:EQ l){S:List Int}:∀{r:List (E8×iy)}{out:Option Ty}{z:Ty},
 (∀p∈r,∀m:List Nm,EQ m->∀u,p.2 m S=.ok u->u.right=true)->(∀o,out=some o->o.right=true)->(r=[]->out≠none)->CJ y l S r out=.ok z->z.right=true
 |[],out,z,_,ho,hn,h=>by
   simp only[CJ,Except.ok.injEq]at h;cases out with
   |none=>exact absurd rfl (hn rfl)
   |some o=>simp only[zZq]at h;subst h;exact ho o rfl
 | (p,f)::r,out,z,hr,ho,hn,h=>by
   simp only[CJ]at h;cases hb:p.binds y with
   |none=>rw[hb]at h;cases h
   |some b=>
     rw[hb]at h;simp only at h;cases hf:f (l++b.map Em) S with
     |error e=>rw[hf]at h;cases h
     |ok a=>
       rw[hf]at h;simp only[Except.bind]at h;have ha:a.right=true:=hr (p,f) (z5q ..) _ (hl.app (EQ.C5x (E8.A5r p y b hy hb))) a hf;cases out with
       |none=>exact jg hy hl (λp' Ip=>hr p' (z3q _ Ip)) (λo h=>by cases h;exact ha) (by simp) h
       |some o=>
         simp only at h;split at h
         ·exact jg hy hl (λp' Ip=>hr p' (z3q _ Ip)) ho (by simp) h
         ·cases h
def Yp(t:Tm):t.right=true->t.fit->∀(l:List Nm)(S:List Int)(y:Ty),EQ l->ck t l S=.ok y->y.right=true:=by
 induction t using Tm.ind with
 |h t ih=>
   intro ht Bp l S y hl h;have own:=Tm.EH ht;have C2X:∀v∈t.vars,0<=v/\v<=1048576:=own.vars;have pK:=Nat.le_of_lt Bp.one.vars;rcases Tm.kinds ht with hk | hk | hk | hk | hk | hk | hk | hk | hk | hk | hk | hk | hk
   ·rw[B6D hk]at h;cases hf:l.reverse.find? λx=>decide (x.name=t.name)with
    |none=>rw[hf]at h;cases h
    |some x=>
      rw[hf]at h;simp only at h;have hx:=hl x (zDq.1 (zrq hf));split at h
      ·split at h
       ·cases h;refine Ty.B1K (λe he=>?_) _ hx.1;exact own.args _ (zsq he).2
       ·cases h
      ·cases h
   ·rw[A4j hk]at h;cases h;exact yJ (by omega)
   ·rw[Yo (by omega)]at h;cases hr:Aa l S (t.D6.map ck)with
    |error e=>rw[hr]at h;cases h
    |ok ys=>rw[hr]at h;obtain⟨h1,h2⟩:=Nu hr;exact Sg ht (by omega) h1 (λy hy=>by obtain⟨k,a,b⟩:=h2 y hy;exact ih k a (Tm.M8 ht a) (Bp.kid a) l S y hl b) h
   ·rw[B3l hk]at h;split at h
    ·cases h;exact B8w (own.a (by rw[hk];rfl))
    ·cases h
   ·rw[Yo (by omega)]at h;cases hr:Aa l S (t.D6.map ck)with
    |error e=>rw[hr]at h;cases h
    |ok ys=>rw[hr]at h;obtain⟨h1,h2⟩:=Nu hr;exact Sg ht (by omega) h1 (λy hy=>by obtain⟨k,a,b⟩:=h2 y hy;exact ih k a (Tm.M8 ht a) (Bp.kid a) l S y hl b) h
   ·obtain⟨k,BD⟩:=Tm.B24 ht (.inl hk);have hm:k∈t.D6:=by rw[BD];simp
    have ha:=own.a (by rw[hk];rfl);rw[B3j hk BD]at h;split at h
    ·cases hc:ck k (l++[⟨t.name,t.a,[]⟩]) S with
     |error e=>rw[hc]at h;cases h
     |ok z=>rw[hc]at h;cases h;exact A3O ha (ih k hm (Tm.M8 ht hm) (Bp.kid hm) _ _ _ (hl.app (.one (Nm.vW ha))) hc)
    ·cases h
   ·rw[Yo (by omega)]at h;cases hr:Aa l S (t.D6.map ck)with
    |error e=>rw[hr]at h;cases h
    |ok ys=>rw[hr]at h;obtain⟨h1,h2⟩:=Nu hr;exact Sg ht (by omega) h1 (λy hy=>by obtain⟨k,a,b⟩:=h2 y hy;exact ih k a (Tm.M8 ht a) (Bp.kid a) l S y hl b) h
   ·obtain⟨k,m,BD⟩:=Tm.YC ht (by omega);have Io:k∈t.D6:=by rw[BD];simp
    have Mh:m∈t.D6:=by rw[BD];simp
    rw[B3k hk BD]at h;split at h
    ·cases hc:ck k l (t.vars++S)with
     |error e=>rw[hc]at h;cases h
     |ok z=>rw[hc]at h;have hz:=ih k Io (Tm.M8 ht Io) (Bp.kid Io) _ _ _ hl hc;exact ih m Mh (Tm.M8 ht Mh) (Bp.kid Mh) _ _ _ (hl.app (.one ⟨hz,pK,C2X⟩)) h
    ·cases h
   ·obtain⟨k,m,BD⟩:=Tm.YC ht (by omega);have Io:k∈t.D6:=by rw[BD];simp
    have Mh:m∈t.D6:=by rw[BD];simp
    have ha:=own.a (by rw[hk];rfl);have hb:=own.b (by rw[hk];rfl);rw[B3m hk BD]at h;split at h
    ·split at h
     ·cases hc:ck k (l++[⟨t.name,.mk 9 0 [t.a,t.b],[]⟩,⟨t.arg,t.a,[]⟩]) (t.vars++S)with
      |error e=>rw[hc]at h;cases h
      |ok z=>
        rw[hc]at h;simp only[Except.bind]at h;split at h
        ·exact ih m Mh (Tm.M8 ht Mh) (Bp.kid Mh) _ _ _ (hl.app (.one ⟨A3O ha hb,pK,C2X⟩)) h
        ·cases h
     ·cases h
    ·cases h
   ·rw[Yo (by omega)]at h;cases hr:Aa l S (t.D6.map ck)with
    |error e=>rw[hr]at h;cases h
    |ok ys=>rw[hr]at h;obtain⟨h1,h2⟩:=Nu hr;exact Sg ht (by omega) h1 (λy hy=>by obtain⟨k,a,b⟩:=h2 y hy;exact ih k a (Tm.M8 ht a) (Bp.kid a) l S y hl b) h
   ·obtain⟨k,ks,BD,Bl⟩:=Tm.C21 ht hk;have Io:k∈t.D6:=by rw[BD];simp
    rw[A6T hk BD]at h;cases hc:ck k l S with
    |error e=>rw[hc]at h;cases h
    |ok z=>
      rw[hc]at h;have hz:=ih k Io (Tm.M8 ht Io) (Bp.kid Io) _ _ _ hl hc;refine jg hz hl (λp hp m hm u hu=>?_) (λo h=>by cases h) (λhn=>?_) h
      ·obtain⟨k',CR,e⟩:=zkq.1 (zsq hp).2;have Mh:k'∈t.D6:=by rw[BD];exact z3q _ CR
       exact ih k' Mh (Tm.M8 ht Mh) (Bp.kid Mh) m S u hm (by rw[e];exact hu)
      ·have:=own.C58 hk;have h1:=congrArg List.length hn;rw[zIq,zXq,Bl,Nat.min_self,zbq]at h1;omega
   ·rw[Yo (by omega)]at h;cases hr:Aa l S (t.D6.map ck)with
    |error e=>rw[hr]at h;cases h
    |ok ys=>rw[hr]at h;obtain⟨h1,h2⟩:=Nu hr;exact Sg ht (by omega) h1 (λy hy=>by obtain⟨k,a,b⟩:=h2 y hy;exact ih k a (Tm.M8 ht a) (Bp.kid a) l S y hl b) h
   ·rw[Yo (by omega)]at h;cases hr:Aa l S (t.D6.map ck)with
    |error e=>rw[hr]at h;cases h
    |ok ys=>rw[hr]at h;obtain⟨h1,h2⟩:=Nu hr;exact Sg ht (by omega) h1 (λy hy=>by obtain⟨k,a,b⟩:=h2 y hy;exact ih k a (Tm.M8 ht a) (Bp.kid a) l S y hl b) h
end Go.Su

/-
 The CHECKER: which errors there are; how many names stand at once; scopes as maps of counters.
-/
namespace Go.Su
set_option linter.defProp false
def Hl(e:Int):Prop:=e=4\/e=6\/e=8
def Qs{α β : Type}{x:Except Int α}{f : α->Except Int β}{e:Int}(h:x.bind f=.error e):x=.error e\/∃a,x=.ok a/\f a=.error e:=by
 cases x with
 |error e'=>left;simpa[Except.bind]using h
 |ok a=>right;exact⟨a,rfl,h⟩
def wy{l:List Nm}{S:List Int}:∀{ks:List Tm}{e:Int},Aa l S (ks.map ck)=.error e->∃k∈ks,ck k l S=.error e
 |[],e,h=>by cases h
 |k::ks,e,h=>by
   simp only[zgq,Aa]at h;rcases Qs h with h | ⟨a,h1,h⟩
   ·exact⟨k,z5q ..,h⟩
   ·rcases Qs h with h | ⟨a,h1,h⟩
    ·obtain⟨k',a,b⟩:=wy h;exact⟨k',z3q _ a,b⟩
    ·cases h
def C1b{t:Tm}{S:List Int}{ys:List Ty}{e:Int}(h:Ea t S ys=.error e):Hl e:=by
 unfold Ea at h;simp only at h
 repeat' (split at h)
 all_goals first | (cases h;done) | (cases h;simp[Hl])
def ww{y:Ty}{l:List Nm}{S:List Int}:∀{r:List (E8×iy)}{out:Option Ty}{e:Int},(∀p∈r,∀(m:List Nm) e,p.2 m S=.error e->Hl e)->CJ y l S r out=.error e->Hl e
 |[],out,e,_,h=>by cases h
 | (p,f)::r,out,e,hr,h=>by
   simp only[CJ]at h;cases hb:p.binds y with
   |none=>rw[hb]at h;cases h;simp[Hl]
   |some b=>
     rw[hb]at h;rcases Qs h with h | ⟨a,h1,h⟩
     ·exact hr _ (z5q ..) _ _ h
     ·cases out with
      |none=>exact ww (λp' Ip=>hr p' (z3q _ Ip)) h
      |some o=>
        simp only at h;split at h
        ·exact ww (λp' Ip=>hr p' (z3q _ Ip)) h
        ·cases h;simp[Hl]
variable (t:Tm)
def av:∀(l:List Nm)(S:List Int)(e:Int),ck t l S=.error e->Hl e:=by
 induction t using Tm.ind with
 |h t ih=>
   intro l S e h;have hd:∀(i:Nat) l S e,((t.D6.map ck).getD i λ_ _=>.error 4) l S=.error e->Hl e:=by
    intro i l S e h;rw[z4q]at h;rcases Nat.lt_or_ge i t.D6.length with hi | hi
    ·rw[z1q (by simpa using hi)]at h;simp only[zZq,List.getElem_map]at h;exact ih _ (z9q hi) _ _ _ h
    ·rw[List.getElem?_eq_none (by simpa using hi)]at h;cases h;simp[Hl]
   rw[LF]at h;unfold De at h;simp only at h;split at h
   ·split at h
    ·cases h;simp[Hl]
    ·split at h
     ·split at h
      ·cases h
      ·cases h;simp[Hl]
     ·cases h;simp[Hl]
   split at h
   ·cases h
   split at h
   ·split at h
    ·cases h
    ·cases h;simp[Hl]
   split at h
   ·split at h
    ·rcases Qs h with h | ⟨a,h1,h⟩
     ·exact hd _ _ _ _ h
     ·cases h
    ·cases h;simp[Hl]
   split at h
   ·split at h
    ·rcases Qs h with h | ⟨a,h1,h⟩
     ·exact hd _ _ _ _ h
     ·exact hd _ _ _ _ h
    ·cases h;simp[Hl]
   split at h
   ·split at h
    ·split at h
     ·rcases Qs h with h | ⟨a,h1,h⟩
      ·exact hd _ _ _ _ h
      ·split at h
       ·exact hd _ _ _ _ h
       ·cases h;simp[Hl]
     ·cases h;simp[Hl]
    ·cases h;simp[Hl]
   split at h
   ·rcases Qs h with h | ⟨a,h1,h⟩
    ·exact hd _ _ _ _ h
    ·refine ww (λp hp m e he=>?_) h;have:=(zsq hp).2;obtain⟨k',CR,e'⟩:=zkq.1 (List.mem_of_mem_drop this);rw[<- e']at he;exact ih k' CR _ _ _ he
   ·rcases Qs h with h | ⟨a,h1,h⟩
    ·obtain⟨k,hk,h⟩:=wy h;exact ih k hk _ _ _ h
    ·exact C1b h
def Tm.wide(t:Tm):Nat:=2+(t.H8.map E8.size).sum+(t.D6.attach.map λk=>Tm.wide k.1).sum
termination_by SizeOf.sizeOf t
decreasing_by exact Tm.Jf k.2
def Tm.A4F:t.wide=2+(t.H8.map E8.size).sum+(t.D6.map Tm.wide).sum:=by rw[Tm.wide];congr 2;exact List.attach_map_val (f:=Tm.wide) ..
def Tm.Oq{t k:Tm}(h:k∈t.D6):k.wide+2+(t.H8.map E8.size).sum<=t.wide:=by rw[Tm.A4F t];have:=JN (f:=Tm.wide) h;omega
def B90{α X:Type}{l:List α}{P:Int->Option X}{f : α->Bool}{y n:Option X}(stop:P l.length=y)(step:∀(i:Nat)(h:i<l.length),P i=if f l[i]=true then P ((i:Int)+1)else n):P 0=if l.all f=true then y else n:=by
 have key:∀(m i:Nat),i+m=l.length->P i=if (l.drop i).all f=true then y else n:=by
  intro m;induction m with
  |zero=>intro i hi;rw[List.drop_of_length_le (by omega),show i=l.length by omega,stop];rfl
  |succ m ih=>
    intro i hi;have h:i<l.length:=by omega
    have:=ih (i+1) (by omega);push_cast at this;rw[step i h,ztq h,List.all_cons,this];by_cases h3:f l[i]=true<;>simp[h3]
 have:=key l.length 0 (by omega);simpa using this
def Z0(es:List (DV×DV))(S:List Int):Prop:=GQ es λv=>if v∈S then 1 else 0
def Z0.nil:Z0 [] []:=by
 have:(λv:Int=>if v∈([]:List Int)then(1:Int)else 0)=λ_=>0:=by funext v;simp
 unfold Z0;rw[this];exact GQ.nil
variable {es:List (DV×DV)}
def GQ.congr{c d:Int->Int}(h:GQ es c)(e:∀v,c v=d v):GQ es d:=λv=>by rw[h v,e v]
def qH{S l:List Int}:takes S l=true↔l.Nodup/\∀v∈l,v∉S:=by unfold takes;simp
def B4G{S l:List Int}(h:takes S l=true)(k:GQ es λv=>(if v∈S then 1 else 0)+1 * (l.count v:Int)):Z0 es (l++S):=by
 obtain⟨h1,h2⟩:=qH.1 h;refine k.congr λv=>?_;by_cases hv:v∈l
 ·have:l.count v=1:=by have a:=(zJq.1 h1) v;have b:=zNq.2 hv;omega
  simp[hv,h2 v hv,this]
 ·have:l.count v=0:=zmq hv;simp[hv,this]
def B1O{S l:List Int}(h:takes S l=true)(k:GQ es λv=>(if v∈l++S then 1 else 0)+(-1) * (l.count v:Int)):Z0 es S:=by
 obtain⟨h1,h2⟩:=qH.1 h;refine k.congr λv=>?_;by_cases hv:v∈l
 ·have:l.count v=1:=by have a:=(zJq.1 h1) v;have b:=zNq.2 hv;omega
  simp[hv,h2 v hv,this]
 ·have:l.count v=0:=zmq hv;simp[hv,this]
def V4:Res->List DV
 |.ok y=>[y.A9,.int .i64 0]
 |.error e=>[O5.A9,.int .i64 e]
noncomputable def A8m:Res:=if t.right=true then ck t [] []else .error 1
end Go.Su

/-
 The CHECKER: a term's type has no variables but those in scope.
-/
namespace Go.Su
set_option linter.defProp false
inductive Ty.Occ(v:Int):Ty->Prop where
 |here (t:Ty):t.A8=6->t.n=v->Ty.Occ v t
 |kid (t k:Ty):k∈t.D6->Ty.Occ v k->Ty.Occ v t
variable {t:Ty}
def Ty.B6X{v:Int}:t.Occ v↔(t.A8=6/\t.n=v)\/∃k∈t.D6,k.Occ v:=by
 constructor
 ·intro h;cases h with
  |here _ a b=>exact .inl ⟨a,b⟩
  |kid _ k a b=>exact .inr ⟨k,a,b⟩
 ·rintro(⟨a,b⟩ | ⟨k,a,b⟩)
  ·exact .here t a b
  ·exact .kid t k a b
def Ty.B8c{v:Int}(t:Ty):∀l:List Int,v∈t.Cj l↔v∈l\/t.Occ v:=by
 induction t using Ty.ind with
 |h t ih=>
   intro l;rw[Ty.cK,Ty.B6X];have key:∀(ks:List Ty),(∀k∈ks,∀l:List Int,v∈k.Cj l↔v∈l\/k.Occ v)->∀l:List Int,v∈ks.foldl (λl k=>k.Cj l) l↔v∈l\/∃k∈ks,k.Occ v:=by
    intro ks;induction ks with
    |nil=>intro _ l;simp
    |cons k ks ihk=>intro h l;simp only[zKq];rw[ihk (λk' CR=>h k' (z3q _ CR)),h k (z5q ..)];simp only[zdq,exists_eq_or_imp,or_assoc]
   rw[key t.D6 ih];by_cases h6:t.A8=6
   ·by_cases hn:t.n∈l
    ·simp only[h6,hn,not_true,and_false,F9,true_and]
     constructor
     ·rintro(h | h)
      ·exact .inl h
      ·exact .inr (.inr h)
     ·rintro(h | h | h)
      ·exact .inl h
      ·subst h;exact .inl hn
      ·exact .inr h
    ·simp only[h6,hn,not_false_eq_true,and_self,H5,z2q,zhq,true_and,or_assoc]
     have:v=t.n↔t.n=v:=eq_comm;rw[this]
   ·simp[h6]
def B0c{S:List Int}:GD S t=true↔∀v,t.Occ v->v∈S:=by unfold GD Ty.vars;simp only[z6q,F5,Ty.B8c,zlq,false_or]
def Ty.B7v:t.BC 6=true↔∀v,¬t.Occ v:=by
 induction t using Ty.ind with
 |h t ih=>
   rw[Ty.Ot];simp only[z0q,zwq,Q8,z6q];constructor
   ·rintro⟨h1,h2⟩ v hv;rcases Ty.B6X.1 hv with⟨a,-⟩ | ⟨k,a,b⟩
    ·exact h1 a
    ·exact(ih k a).1 (h2 k a) v b
   ·intro h;refine⟨λh6=>h t.n (.here t h6 rfl),λk hk=>(ih k hk).2 λv hv=>h v (.kid t k hk hv)⟩
def Tm.B12(t:Tm):t.wide<=2 * t.Q3:=by
 induction t using Tm.ind with
 |h t ih=>
   rw[Tm.A4F,Tm.BQ];have h1:=yf ih;have h2:=yf (l:=t.H8) (f:=E8.size) (g:=E8.Q3) λp _=>p.Rm;have h3:(t.D6.map λk=>2 * k.Q3).sum=2 * (t.D6.map Tm.Q3).sum:=by
    have:∀l:List Tm,(l.map λk=>2 * k.Q3).sum=2 * (l.map Tm.Q3).sum:=by
     intro l;induction l with
     |nil=>rfl
     |cons a l ih=>simp only[zgq,zuq,ih];omega
    exact this _
   omega
def B6M:GD [] t=t.BC 6:=by rw[Bool.eq_iff_iff,B0c,Ty.B7v];simp
end Go.Su

/-
 NAMES THAT ARE FREE: rows that rise, what a term binds, which names are free in it.
-/
namespace Go.Su
set_option linter.defProp false
def B5v(x y:List UInt8):JH x y=decide (x<y):=by
 induction x generalizing y with
 |nil=>cases y<;>simp[JH]
 |cons a x ih=>
   cases y with
   |nil=>simp[JH]
   |cons b y=>
     simp only[JH,ih,List.cons_lt_cons_iff]
     by_cases h:a<b<;>by_cases h':a=b<;>simp[h,h']
variable (s:ByteArray)
def Iq:List UInt8:=s.data.toList
def A65{a b:ByteArray}(h:Iq a=Iq b):a=b:=A10 (by rw[NQ,NQ];exact h)
def C3M{a b:ByteArray}(h:a≠b):Iq a≠Iq b:=λh'=>h (A65 h')
def yZ(a b:ByteArray):Bool:=decide (Iq a<Iq b)
@[simp] theorem B9o(a b:ByteArray):D7 .lss (.str a) (.str b)=some (.bool (yZ a b)):=by show some (DV.bool (JH a.toList b.toList))=_;rw[B5v,NQ,NQ];rfl
def B91{a b c:List UInt8}(h:a<b)(h':b<c):a<c:=List.lt_trans h h'
def B8a(a:List UInt8):¬a<a:=List.lt_irrefl a
def C3T(a b:List UInt8):a<b\/a=b\/b<a:=by
 by_cases h:a<b
 ·exact .inl h
 ·by_cases h':b<a
  ·exact .inr (.inr h')
  ·exact .inr (.inl (List.le_antisymm (List.not_lt.1 h') (List.not_lt.1 h)))
def rise:List ByteArray->ByteArray->List ByteArray
 |[],s=>[s]
 |x::l,s=>if yZ x s=true then x::rise l s else if x=s then x::l else s::x::l
variable (l:List ByteArray)
def B4D(s:ByteArray):(rise l s).length<=l.length+1:=by
 induction l with
 |nil=>simp[rise]
 |cons x l ih=>
   unfold rise;split
   ·simp only[zaq];omega
   ·split<;>simp
variable {l:List ByteArray}
def B4k{s x:ByteArray}:x∈rise l s↔x=s\/x∈l:=by
 induction l with
 |nil=>simp[rise]
 |cons y l ih=>
   unfold rise;split
   ·simp only[zdq,ih]
    constructor
    ·rintro(h | h | h)
     ·exact .inr (.inl h)
     ·exact .inl h
     ·exact .inr (.inr h)
    ·rintro(h | h | h)
     ·exact .inr (.inl h)
     ·exact .inl h
     ·exact .inr (.inr h)
   ·split
    ·rename_i h;subst h;simp
    ·simp
def Z_(l:List ByteArray):Prop:=l.Pairwise λa b=>Iq a<Iq b
def B8y{s:ByteArray}(h:Z_ l):Z_ (rise l s):=by
 induction l with
 |nil=>simp[rise,Z_]
 |cons y l ih=>
   obtain⟨h1,h2⟩:=zvq.1 h;unfold rise;by_cases c:yZ y s=true
   ·rw[D5 c];refine zvq.2 ⟨λx hx=>?_,ih h2⟩;rcases B4k.1 hx with rfl | hx
    ·simpa[yZ]using c
    ·exact h1 x hx
   ·rw[C8 c];by_cases e:y=s
    ·rw[D5 e];exact h
    ·rw[C8 e];have P8:Iq s<Iq y:=by
      rcases C3T (Iq y) (Iq s)with h | h | h
      ·exact absurd (by simpa[yZ]using h) c
      ·exact absurd (A65 h) e
      ·exact h
     refine zvq.2 ⟨λx hx=>?_,h⟩;rcases zdq.1 hx with rfl | hx
     ·exact P8
     ·exact B91 P8 (h1 x hx)
def B95{m:List ByteArray}{x:ByteArray}:x∈m.foldl rise l↔x∈l\/x∈m:=by
 induction m generalizing l with
 |nil=>simp
 |cons s m ih=>
   rw[zKq,ih,B4k];simp only[zdq];constructor
   ·rintro((h | h) | h)
    ·exact .inr (.inl h)
    ·exact .inl h
    ·exact .inr (.inr h)
   ·rintro(h | h | h)
    ·exact .inl (.inr h)
    ·exact .inl (.inl h)
    ·exact .inr h
def B5X{m:List ByteArray}(h:Z_ l):Z_ (m.foldl rise l):=by
 induction m generalizing l with
 |nil=>exact h
 |cons s m ih=>exact ih (B8y h)
def B1L(l m:List ByteArray):(m.foldl rise l).length<=l.length+m.length:=by
 induction m generalizing l with
 |nil=>simp
 |cons s m ih=>have:=ih (rise l s);have:=B4D l s;simp only[zKq,zaq];omega
def Z_.nodup(h:Z_ l):(l.map Iq).Nodup:=by rw[List.nodup_iff_pairwise_ne,zRq];exact List.Pairwise.imp (λ{a b} (EO:Iq a<Iq b) (he:Iq a=Iq b)=>B8a (Iq b) (by rw[he]at EO;exact EO)) h
structure Dn(es:List (DV×DV))(P:ByteArray->Prop):Prop where
 str:∀e∈es,∃s n,e=(.str s,.int .i64 n)
 nodup:(es.map λe=>MM e.1).Nodup
 mem:∀s,Iq s∈es.map (λe=>MM e.1)↔P s
def Dn.nil:Dn [] λ_=>False:=⟨by simp,by simp,by simp⟩
theorem A3G:MM (.str s)=Iq s:=rfl
variable {es:List (DV×DV)}
def Dn.get{P:ByteArray->Prop}(h:Dn es P)(s:ByteArray):∃n,(AQ es (.str s)).getD (.int .i64 0)=.int .i64 n:=by
 unfold AQ;cases hf:es.find? λe=>DK (.str s) e.1 with
 |none=>exact⟨0,rfl⟩
 |some e=>obtain⟨s',n,rfl⟩:=h.str e (zrq hf);exact⟨n,rfl⟩
variable (es:List (DV×DV))
def B1r(s:ByteArray)(v:DV)(h:∀e∈es,∃s n,e=(DV.str s,DV.int .i64 n)):
 (BJ es (.str s) v).map (λe=>MM e.1)=if Iq s∈es.map (λe=>MM e.1)then es.map (λe=>MM e.1)else es.map (λe=>MM e.1)++[Iq s]:=by
 induction es with
 |nil=>simp[BJ,A3G]
 |cons e es ih=>
   obtain⟨s',n,rfl⟩:=h e (z5q ..);have ih:=ih λe he=>h e (z3q _ he);unfold BJ;rw[A3A];by_cases hs:s=s'
   ·subst hs;simp[A3G]
   ·have hk:=C3M hs;simp only[hs,R4,Bool.false_eq_true,F9,zgq,ih,A3G,zdq]
    by_cases hm:Iq s∈es.map λe=>MM e.1
    ·simp[hm]
    ·simp[hm,hk]
def C1W(s:ByteArray)(n:Int)(h:∀e∈es,∃s n,e=(DV.str s,DV.int .i64 n)):∀e∈BJ es (.str s) (.int .i64 n),∃s n,e=(DV.str s,DV.int .i64 n):=by
 induction es with
 |nil=>intro e he;simp only[BJ,zhq]at he;exact⟨s,n,he⟩
 |cons x es ih=>
   obtain⟨s',n',rfl⟩:=h x (z5q ..);have ih:=ih λe he=>h e (z3q _ he);unfold BJ;intro e he;split at he
   ·rcases zdq.1 he with rfl | he
    ·exact⟨s',n,rfl⟩
    ·exact h e (z3q _ he)
   ·rcases zdq.1 he with rfl | he
    ·exact⟨s',n',rfl⟩
    ·exact ih e he
variable {es:List (DV×DV)}
def Dn.set{P:ByteArray->Prop}(h:Dn es P)(s:ByteArray)(n:Int):Dn (BJ es (.str s) (.int .i64 n)) λx=>x=s\/P x:=by
 refine⟨C1W es s n h.str,?_,λx=>?_⟩
 ·rw[B1r es s _ h.str];split
  ·exact h.nodup
  ·rename_i hs;refine List.nodup_append.2 ⟨h.nodup,by simp,λa ha b hb=>?_⟩;rw[zhq.1 hb];rintro rfl;exact hs ha
 ·rw[B1r es s _ h.str];split
  ·rename_i hs;rw[h.mem x];constructor
   ·exact λhp=>.inr hp
   ·rintro(rfl | hp)
    ·exact(h.mem _).1 hs
    ·exact hp
  ·rw[z2q,h.mem x,zhq];constructor
   ·rintro(hp | hp)
    ·exact .inr hp
    ·exact .inl (A65 hp)
   ·rintro(rfl | hp)
    ·exact .inr rfl
    ·exact .inl hp
def Dn.congr{P Q:ByteArray->Prop}(h:Dn es P)(hq:∀s,P s↔Q s):Dn es Q:=⟨h.str,h.nodup,λs=>(h.mem s).trans (hq s)⟩
def B0r{L:List ByteArray}(h:Dn es λs=>s∈L)(hL:Z_ L):Om es=N7 L/\es.length=L.length:=by
 have hK:(es.map λe=>MM e.1).Perm (L.map Iq):=by
  refine(List.perm_ext_iff_of_nodup h.nodup hL.nodup).2 λk=>?_;constructor
  ·intro hk;obtain⟨e,he,rfl⟩:=zkq.1 hk;obtain⟨s,n,rfl⟩:=h.str e he;exact List.mem_map_of_mem ((h.mem s).1 hk)
  ·intro hk;obtain⟨s,hs,rfl⟩:=zkq.1 hk;exact(h.mem s).2 hs
 have hs:Jz (es.map λe=>MM e.1)=L.map Iq:=by have h1:Jz (es.map λe=>MM e.1)=Jz (L.map Iq):=Go.mergeSort_of_perm hK;rw[h1];refine List.mergeSort_of_pairwise (le:=λx y=>decide (x<=y)) ?_;rw[zRq];refine List.Pairwise.imp ?_ hL;intro a b EO;simp only[F5];exact List.le_of_lt EO
 refine⟨?_,by have:=hK.length_eq;simpa using this⟩;unfold Om;rw[hs];simp only[N7,zUq]
 congr 1
def N_(es:List (DV×DV))(c:ByteArray->Int):Prop:=∀v,(AQ es (.str v)).getD (.int .i64 0)=.int .i64 (c v)
def N_.set{c:ByteArray->Int}(h:N_ es c)(a:ByteArray)(n:Int):N_ (BJ es (.str a) (.int .i64 n)) λv=>if a=v then n else c v:=by
 intro v;rw[B4e];by_cases e:a=v
 ·simp[e]
 ·simp[e,h v]
variable (t:Tm)(i:Nat)
def Tm.binds:List ByteArray :=
 if t.A8=9\/(t.A8=11/\i=1)\/(t.A8=12/\i=1)then[t.name]
 else if t.A8=12 then[t.name,t.arg]
 else if t.A8=14/\0<i then match t.H8[i-1]? with
  |some p=>p.names
  |none=>[]
 else[]
mutual
def Tm.fr:Tm->List ByteArray->List ByteArray
 |.mk k lo hi nm ar n s op lb ng vs a b ys ps ks,B=>(if k=1/\(B.any λx=>decide (x=nm))=false then[nm]else[])++Tm.o_ (Tm.binds (.mk k lo hi nm ar n s op lb ng vs a b ys ps ks)) 0 ks B
def Tm.o_:(Nat->List ByteArray)->Nat->List Tm->List ByteArray->List ByteArray
 |_,_,[],_=>[]
 |b,i,k::ks,B=>Tm.fr k (B++b i)++Tm.o_ b (i+1) ks B
end
variable (t:Tm)(B:List ByteArray)
theorem Tm.A8Z:t.fr B=(if t.A8=1/\(B.any λx=>decide (x=t.name))=false then[t.name]else[])++Tm.o_ t.binds 0 t.D6 B:=by cases t;rw[Tm.fr];rfl
def Tm.A4p(b:Nat->List ByteArray)(i:Nat)(B:List ByteArray):Tm.o_ b i [] B=[]:=by rw[Tm.o_]
def Tm.xc(b:Nat->List ByteArray)(i:Nat)(k:Tm)(ks:List Tm)(B:List ByteArray):Tm.o_ b i (k::ks) B=k.fr (B++b i)++Tm.o_ b (i+1) ks B:=by rw[Tm.o_]
def Tm.A80:∀B,(t.fr B).length<=t.size:=by
 induction t using Tm.ind with
 |h t ih=>
   intro B;rw[Tm.A8Z,Tm.size_eq];have key:∀(ks:List Tm)(i:Nat),(∀k∈ks,∀B,(k.fr B).length<=k.size)->(Tm.o_ t.binds i ks B).length<=(ks.map Tm.size).sum:=by
    intro ks;induction ks with
    |nil=>intro i _;simp[Tm.A4p]
    |cons k ks ihk=>intro i h;rw[Tm.xc];have h1:=h k (z5q ..) (B++t.binds i);have h2:=ihk (i+1) λk' CR=>h k' (z3q _ CR);simp only[zeq,zgq,zuq];omega
   have:=key t.D6 0 ih;simp only[zeq]
   split<;>simp<;>omega
def Tm.free:List ByteArray:=(t.fr []).foldl rise []
def Tm.B7M:Z_ t.free:=B5X (by simp[Z_])
def Tm.xz{t:Tm}{s:ByteArray}:s∈t.free↔s∈t.fr []:=by unfold Tm.free;rw[B95];simp
def Tm.C1y:t.free.length<=t.size:=by have h1:=B1L [] (t.fr []);have h2:=t.A80 [];unfold Tm.free;simp only[zbq]at h1;omega
def Tm.Rm:t.size<=t.Q3:=by
 induction t using Tm.ind with
 |h t ih=>
   rw[Tm.size_eq,Tm.BQ];have key:∀ks:List Tm,(∀k∈ks,k.size<=k.Q3)->(ks.map Tm.size).sum<=(ks.map Tm.Q3).sum:=by
    intro ks;induction ks with
    |nil=>simp
    |cons k ks ihk=>intro h;simp only[zgq,zuq];have:=h k (z5q ..);have:=ihk λk' CR=>h k' (z3q _ CR);omega
   have:=key t.D6 ih;omega
def Tm.ak(i:Nat):(t.binds i).length+2 * (t.D6.map Tm.Q3).sum<=2 * t.Q3:=by
 have hm:=t.BQ;have h2:(t.binds i).length<=2+(t.H8.map E8.Q3).sum:=by
  unfold Tm.binds;split
  ·simp;omega
  ·split
   ·simp
   ·split
    ·split
     ·rename_i p hp;have h1:=JN (f:=E8.Q3) (zfq hp);have h3:=p.Pn [];have h4:=p.Rm;have h5:p.names=p.Dp []:=rfl;rw[h5];simp only[zbq]at h3;omega
     ·simp
    ·simp
 omega
def Tm.Z4{t:Tm}(h:t.right=true):t.one=true:=by rw[Tm.right_eq,z0q]at h;exact h.1
def Tm.A3C{t:Tm}(h:t.right=true)(hk:t.A8=14):t.D6.length=t.H8.length+1:=by have h1:=Tm.Z4 h;unfold Tm.one at h1;simp only[z0q,F5]at h1;have h2:=h1.1.1.1.1.1.2;rw[hk]at h2;simp[R7]at h2;omega
end Go.Su

/-
 A closed term put for a name that has no variables.
-/
namespace Go.Su
set_option linter.defProp false
mutual
def Tm.Zb:Tm->ByteArray->Tm->Option Tm
 |.mk k lo hi nm ar n ss op lb ng vs a b ys ps ks,s,v=>
   if k=1 then(if nm=s then(if ys.length=0 then some v else none)else some (.mk k lo hi nm ar n ss op lb ng vs a b ys ps ks))
   else match Tm.LJ (Tm.binds (.mk k lo hi nm ar n ss op lb ng vs a b ys ps ks)) 0 ks s v with
    |some ks'=>some (.mk k lo hi nm ar n ss op lb ng vs a b ys ps ks')
    |none=>none
def Tm.LJ:(Nat->List ByteArray)->Nat->List Tm->ByteArray->Tm->Option (List Tm)
 |_,_,[],_,_=>some []
 |b,i,k::ks,s,v=>
   match (if ((b i).any λx=>decide (x=s))=true then some k else Tm.Zb k s v)with
   |some k'=>match Tm.LJ b (i+1) ks s v with
     |some ks'=>some (k'::ks')
     |none=>none
   |none=>none
end
variable (t:Tm)(ks:List Tm)
def Tm.V7:Tm:=.mk t.A8 t.lo t.hi t.name t.arg t.n t.s t.op t.label t.neg t.vars t.a t.b t.args t.H8 ks
theorem Tm.fE:t.V7 t.D6=t:=by cases t;rfl
@[simp] theorem Tm.B2Q:(t.V7 ks).A8=t.A8:=rfl
@[simp] theorem Tm.FT:(t.V7 ks).D6=ks:=rfl
@[simp] theorem Tm.C43:(t.V7 ks).name=t.name:=rfl
@[simp] theorem Tm.C42:(t.V7 ks).args=t.args:=rfl
@[simp] theorem Tm.C44:(t.V7 ks).H8=t.H8:=rfl
@[simp] theorem Tm.wK:(t.V7 ks).binds=t.binds:=rfl
@[simp] theorem Tm.C45(ks':List Tm):(t.V7 ks).V7 ks'=t.V7 ks':=rfl
variable (s:ByteArray)
theorem Tm.A4x(v t:Tm):t.Zb s v=if t.A8=1 then(if t.name=s then(if t.args.length=0 then some v else none)else some t)
 else(Tm.LJ t.binds 0 t.D6 s v).map t.V7:=by
 cases t;rw[Tm.Zb];simp only[Tm.Cn,Tm.DU,Tm.Pg,Tm.U6];generalize Tm.LJ _ _ _ _ _=y;cases y<;>rfl
def Tm.A3J(b:Nat->List ByteArray)(s:ByteArray)(v:Tm)(i:Nat):Tm.LJ b i [] s v=some []:=by rw[Tm.LJ]
theorem Tm.iK(b:Nat->List ByteArray)(s:ByteArray)(v:Tm)(i:Nat)(k:Tm)(ks:List Tm):
 Tm.LJ b i (k::ks) s v=(if ((b i).any λx=>decide (x=s))=true then some k else k.Zb s v).bind λk'=>(Tm.LJ b (i+1) ks s v).map (k' :: ·):=by
 rw[Tm.LJ];generalize (if ((b i).any λx=>decide (x=s))=true then some k else k.Zb s v)=x;cases x with
 |none=>rfl
 |some k'=>generalize Tm.LJ b (i+1) ks s v=y;cases y<;>rfl
def Tm.B1B{b:Nat->List ByteArray}{s:ByteArray}{v:Tm}:∀{ks ks':List Tm}{i:Nat},Tm.LJ b i ks s v=some ks'->ks'.length=ks.length
 |[],ks',i,h=>by rw[Tm.A3J]at h;simp only[D9]at h;rw[<- h]
 |k::ks,ks',i,h=>by
   rw[Tm.iK]at h;cases h1:(if ((b i).any λx=>decide (x=s))=true then some k else k.Zb s v)with
   |none=>rw[h1]at h;cases h
   |some k'=>
     rw[h1]at h;cases h2:Tm.LJ b (i+1) ks s v with
     |none=>rw[h2]at h;cases h
     |some ks2=>rw[h2]at h;simp only[znq,z8q,D9]at h;rw[<- h];simp[Tm.B1B h2]
end Go.Su

/-
 A closed term put for a name: what it makes of free names, in which order two are put.
-/
namespace Go.Su
set_option linter.defProp false
variable {L:List ByteArray}{s:ByteArray}
def sU:(L.any λx=>decide (x=s))=true↔s∈L:=by simp
def A9R:(L.any λx=>decide (x=s))=false↔s∉L:=by rw[<- sU (L:=L),Bool.not_eq_true]
def Tm.B6U{b:Nat->List ByteArray}{x:ByteArray}{L:List ByteArray}:∀{ks:List Tm}{i:Nat},x∈Tm.o_ b i ks L↔∃(j:Nat)(k:Tm),ks[j]?=some k/\x∈k.fr (L++b (i+j))
 |[],i=>by simp[Tm.A4p]
 |k::ks,i=>by
   rw[Tm.xc,z2q,Tm.B6U (ks:=ks)];constructor
   ·rintro(h | ⟨j,k',h1,h2⟩)
    ·exact⟨0,k,rfl,h⟩
    ·exact⟨j+1,k',by simpa using h1,by rwa [show i+(j+1)=i+1+j by omega]⟩
   ·rintro⟨j,k',h1,h2⟩;cases j with
    |zero=>simp only[zcq,D9]at h1;subst h1;exact .inl h2
    |succ j=>exact .inr ⟨j,k',by simpa using h1,by rwa [show i+1+j=i+(j+1)by omega]⟩
variable {t:Tm}
def Tm.DD{x:ByteArray}:x∈t.fr L↔(t.A8=1/\x=t.name/\t.name∉L)\/∃(j:Nat)(k:Tm),t.D6[j]?=some k/\x∈k.fr (L++t.binds j):=by
 rw[Tm.A8Z,z2q,Tm.B6U];simp only[zFq,A9R];refine or_congr ?_ Iff.rfl;split
 ·rename_i h;simp only[zhq];exact⟨λe=>⟨h.1,e,A9R.1 h.2⟩,λe=>e.2.1⟩
 ·rename_i h;simp only[zlq,false_iff];rintro⟨h1,-,h3⟩;exact h ⟨h1,A9R.2 h3⟩
def Tm.Nh{k:Tm}{j:Nat}(h:t.D6[j]?=some k):k∈t.D6:=zfq h
variable (t:Tm)
def Tm.A81:∀(L:List ByteArray)(x:ByteArray),x∈t.fr L->x∉L:=by
 induction t using Tm.ind with
 |h t ih=>
   intro L x h;rcases Tm.DD.1 h with⟨-,rfl,h3⟩ | ⟨j,k,h1,h2⟩
   ·exact h3
   ·exact λhx=>ih k (Tm.Nh h1) _ x h2 (z2q.2 (.inl hx))
def Tm.vL:∀(L M:List ByteArray)(x:ByteArray),(∀y,y∈M->y∈L)->(x∈t.fr L↔x∈t.fr M/\x∉L):=by
 induction t using Tm.ind with
 |h t ih=>
   intro L M x hs;constructor
   ·intro h;refine⟨?_,Tm.A81 t L x h⟩;rcases Tm.DD.1 h with⟨h1,h2,h3⟩ | ⟨j,k,h1,h2⟩
    ·exact Tm.DD.2 (.inl ⟨h1,h2,λhm=>h3 (hs _ hm)⟩)
    ·refine Tm.DD.2 (.inr ⟨j,k,h1,((ih k (Tm.Nh h1) (L++t.binds j) (M++t.binds j) x λy hy=>?_).1 h2).1⟩);rcases z2q.1 hy with hy | hy
     ·exact z2q.2 (.inl (hs y hy))
     ·exact z2q.2 (.inr hy)
   ·rintro⟨h,hx⟩;rcases Tm.DD.1 h with⟨h1,h2,h3⟩ | ⟨j,k,h1,h2⟩
    ·exact Tm.DD.2 (.inl ⟨h1,h2,by rw[<- h2];exact hx⟩)
    ·refine Tm.DD.2 (.inr ⟨j,k,h1,(ih k (Tm.Nh h1) (L++t.binds j) (M++t.binds j) x λy hy=>?_).2 ⟨h2,λWK=>?_⟩⟩)
     ·rcases z2q.1 hy with hy | hy
      ·exact z2q.2 (.inl (hs y hy))
      ·exact z2q.2 (.inr hy)
     ·rcases z2q.1 WK with WK | WK
      ·exact hx WK
      ·exact Tm.A81 k _ x h2 (z2q.2 (.inr WK))
def Tm.V_{v:Tm}(h:v.free=[])(L:List ByteArray)(x:ByteArray):x∉v.fr L:=by intro hx;have h1:=((Tm.vL v L [] x (by simp)).1 hx).1;rw[<- Tm.xz,h]at h1;cases h1
def Tm.A7d(b:Nat->List ByteArray)(s:ByteArray)(v:Tm)(i:Nat)(k:Tm):Option Tm:=if ((b i).any λx=>decide (x=s))=true then some k else k.Zb s v
def Tm.B1A{b:Nat->List ByteArray}{s:ByteArray}{v:Tm}:∀{ks ks':List Tm}{i:Nat},Tm.LJ b i ks s v=some ks'->∀(j:Nat) k,ks[j]?=some k->∃k',ks'[j]?=some k'/\Tm.A7d b s v (i+j) k=some k'
 |[],ks',i,h,j,k,hk=>by simp at hk
 |k0::ks,ks',i,h,j,k,hk=>by
   rw[Tm.iK]at h;cases h1:(if ((b i).any λx=>decide (x=s))=true then some k0 else k0.Zb s v)with
   |none=>rw[h1]at h;cases h
   |some k1=>
     rw[h1]at h;cases h2:Tm.LJ b (i+1) ks s v with
     |none=>rw[h2]at h;cases h
     |some ks2=>
       rw[h2]at h;simp only[znq,z8q,D9]at h;subst h;cases j with
       |zero=>simp only[zcq,D9]at hk;subst hk;exact⟨k1,rfl,h1⟩
       |succ j=>obtain⟨k',g1,g2⟩:=Tm.B1A h2 j k (by simpa using hk);exact⟨k',by simpa using g1,by rwa [show i+(j+1)=i+1+j by omega]⟩
theorem Tm.B4w{b:Nat->List ByteArray}{s:ByteArray}{v:Tm}:∀{ks ks':List Tm}{i:Nat},ks'.length=ks.length->(∀(j:Nat) k k',ks[j]?=some k->ks'[j]?=some k'->Tm.A7d b s v (i+j) k=some k')->Tm.LJ b i ks s v=some ks'
 |[],[],i,_,_=>Tm.A3J ..
 |[],_::_,i,h,_=>by simp at h
 |_::_,[],i,h,_=>by simp at h
 |k::ks,k'::ks',i,hl,h=>by
   have h0:(if ((b i).any λx=>decide (x=s))=true then some k else k.Zb s v)=some k':=h 0 k k' rfl rfl;have h1:=Tm.B4w (ks:=ks) (ks':=ks') (i:=i+1) (by simpa using hl) λj a a' ha vN=>by
    have:=h (j+1) a a' (by simpa using ha) (by simpa using vN)
    rwa [show i+(j+1)=i+1+j by omega]at this
   rw[Tm.iK,h0,h1];rfl
def Tm.C50{t:Tm}(h:t.right=true)(hk:t.A8=1):t.D6=[]:=by have h1:=Tm.Z4 h;unfold Tm.one at h1;simp only[z0q,F5]at h1;have h2:=h1.1.1.1.1.1.2;rw[hk]at h2;simp[R7]at h2;exact h2
theorem Tm.ZX{t:Tm}{ks:List Tm}(h:ks.length=t.D6.length):(t.V7 ks).one=t.one:=by unfold Tm.one Tm.V7;simp only[Tm.Cn,Tm.Gu,Tm.U6,Tm.DU,Tm.Jc,Tm.jV,Tm.jY,h];rfl
def Tm.B8l(s:ByteArray)(v:Tm)(hv:v.right=true):t.right=true->∀u,t.Zb s v=some u->u.right=true:=by
 induction t using Tm.ind with
 |h t ih=>
   intro rt u h;rw[Tm.A4x]at h;by_cases h1:t.A8=1
   ·rw[D5 h1]at h;split at h
    ·split at h
     ·simp only[D9]at h;rw[<- h];exact hv
     ·cases h
    ·simp only[D9]at h;rw[<- h];exact rt
   ·rw[C8 h1]at h;cases hp:Tm.LJ t.binds 0 t.D6 s v with
    |none=>rw[hp]at h;cases h
    |some ks=>
      rw[hp]at h;simp only[z8q,D9]at h;subst h;have Bl:=Tm.B1B hp;rw[Tm.right_eq,Tm.ZX Bl,Tm.Z4 rt,y0q,Tm.FT,z6q];intro k' CR;obtain⟨j,hj,rfl⟩:=ziq.1 CR;have hk:t.D6[j]?=some (t.D6[j]'(by omega)):=z1q _;obtain⟨k2,g1,g2⟩:=Tm.B1A hp j _ hk;rw[z1q hj]at g1;simp only[D9]at g1;rw[<- g1]at g2;unfold Tm.A7d at g2;split at g2
      ·simp only[D9]at g2;rw[<- g2];exact Tm.M8 rt (Tm.Nh hk)
      ·exact ih _ (Tm.Nh hk) (Tm.M8 rt (Tm.Nh hk)) _ g2
end Go.Su

/-
 EXPRESSIONS: what is right, what is free, what is put for a name.
-/
namespace Go.Su
def eA(k:Int):Bool:=decide (k=9\/k=11\/k=12\/k=15)
end Go.Su

/-
 EXPRESSIONS: how deep, how great, BC places, their annotations.
-/
namespace Go.Su
def most{α : Type}(f : α->Nat)(l:List α)(n:Nat):Nat:=l.foldl (λa k=>max a (f k)) n
end Go.Su

/-
 EXPRESSIONS: other annotations in the places of its own.
-/
namespace Go.Su
def part{α : Type}(g : α -> α)(l:List α)(j:Nat):List α:=(l.take j).map g++l.drop j
end Go.Su

/-
 EXPRESSIONS WITHOUT TYPES: what a step comes to.
-/
namespace Go.Su
structure R3 where
 A8:Int
 lo:Int
 hi:Int
end Go.Su

/-
 EXPRESSIONS WITHOUT TYPES: a step leaves closed what is closed.
-/
namespace Go.Su
set_option linter.defProp false
def E8.B8d(p:E8):p.names=RZ p++p.D6.flatMap E8.names:=by
 have h:∀q:E8,q.names=q.subs.flatMap RZ:=λq=>by unfold E8.names;rw[E8.YG];simp
 rw[h,E8.Zm,List.flatMap_cons,List.flatMap_assoc];congr 1;have e:E8.names=λk=>k.subs.flatMap RZ:=funext h;rw[e]
def E8.B76{p:E8}(h:p.pat=true)(hk:¬(p.A8=7\/p.A8=9)):p.D6=[]:=by
 rw[E8.Ra,z0q]at h;have h1:=h.1;unfold E8.one at h1;simp only[hk,F9]at h1;have:p.D6.length=0:=by
  split at h1
  ·simp only[z0q,F5]at h1;exact h1.1.1.1
  ·split at h1
   ·simp only[z0q,F5]at h1;exact h1.1.1.2
   ·split at h1
    ·simp only[z0q,F5]at h1;exact h1.1.1
    ·split at h1
     ·simp only[z0q,F5]at h1;exact h1.1.1.2
     ·split at h1
      ·simp only[z0q,F5]at h1;exact h1.1.1.2
      ·cases h1
 exact zxq.1 this
end Go.Su

/-
 THE CHECKER: what a type C9u on; a closed term put for a name.
-/
namespace Go.Su
set_option linter.defProp false
theorem A8o{ks:List E8}:(∀k∈ks,∀t b,k.binds t=some b->b.map Prod.fst=k.names)->∀ts b,Ii (ks.map E8.binds) ts=some b->b.map Prod.fst=ks.flatMap E8.names:=by
 induction ks with
 |nil=>intro _ ts b h;simp only[zCq,Ii,D9]at h;subst h;simp
 |cons k ks ih=>
   intro hk ts b h;cases ts with
   |nil=>simp[Ii]at h
   |cons t ts=>simp only[zgq,Ii,Option.bind_eq_some_iff,D9]at h;obtain⟨a,h1,c,h2,rfl⟩:=h;rw[zYq,hk k (z5q ..) t a h1,ih (λk' CR=>hk k' (z3q _ CR)) ts c h2];rfl
def E8.qd(p:E8):p.pat=true->∀t b,p.binds t=some b->b.map Prod.fst=p.names:=by
 induction p using E8.ind with
 |h p ih=>
   intro hp t b h;rw[E8.jZ]at h;rw[E8.B8d];have hpo:=hp;rw[E8.Ra,z0q,z6q]at hpo;have ih':∀k∈p.D6,∀t b,k.binds t=some b->b.map Prod.fst=k.names:=λk hk t b h=>ih k hk (hpo.2 k hk) t b h;have no:p.A8≠2->RZ p=[]:=λh=>C8 h;unfold Za at h;split at h
   ·rename_i c;simp only[D9]at h;subst h;rw[no (by omega),E8.B76 hp (by omega)];rfl
   split at h
   ·rename_i c;simp only[D9]at h;subst h;rw[E8.B76 hp (by omega)];unfold RZ;rw[D5 c];rfl
   split at h
   ·split at h
    ·rw[no (by omega)];exact A8o ih' _ _ h
    ·cases h
   split at h
   ·split at h
    ·rw[no (by omega)];exact A8o ih' _ _ h
    ·cases h
   split at h
   ·rename_i c1 c2 c3 c4 _;simp only[D9]at h;subst h;rw[no c2,E8.B76 hp (by omega)];rfl
   ·cases h
def pQ(r q:Res):Prop:=∀B,r=.ok B->q=.ok B
def xx{r q:Res}{f g:Ty->Res}(h:pQ r q)(h2:∀y,r=.ok y->pQ (f y) (g y)):pQ (r.bind f) (q.bind g):=by
 intro B hB;cases r with
 |error e=>cases hB
 |ok y=>rw[h y rfl];exact h2 y rfl B hB
def vT{c d:Prop}[Decidable c][Decidable d]{r q:Res}{e:Int}(h1:c->d)(h2:c->pQ r q):pQ (if c then r else .error e) (if d then q else .error e):=by
 intro B hB;by_cases hc:c
 ·rw[D5 hc]at hB;rw[D5 (h1 hc)];exact h2 hc B hB
 ·rw[C8 hc]at hB;cases hB
def Dh(l:List Nm)(n:ByteArray):Option Nm:=l.reverse.find? λx=>decide (x.name=n)
def MJ(l m:List Nm)(n:ByteArray):Dh (l++m) n=(Dh m n).or (Dh l n):=by unfold Dh;rw[List.reverse_append,List.find?_append]
variable {m:List Nm}{n:ByteArray}
def A86(h:n∉m.map Nm.name):Dh m n=none:=by unfold Dh;rw[zOq];intro x hx;simp only[F5];intro e;exact h (zkq.2 ⟨x,zDq.1 hx,e⟩)
def xy(h:n∈m.map Nm.name):∃x,Dh m n=some x:=by
 obtain⟨x,hx,e⟩:=zkq.1 h;cases hf:Dh m n with
 |some y=>exact⟨y,rfl⟩
 |none=>unfold Dh at hf;rw[zOq]at hf;exact absurd (by simpa using e) (hf x (zDq.2 hx))
def mI(m:List Nm)(b:List ByteArray):Prop:=∀n,n∈m.map Nm.name↔n∈b
section
variable {t:Tm}{ks:List Tm}{fs gs:List iy}{L M:List Nm}{S Q:List Int}
def B9g(h:∀(j:Nat) f g,fs[j]?=some f->gs[j]?=some g->pQ (f L S) (g M Q))(hl:fs.length=gs.length):∀ys,Aa L S fs=.ok ys->Aa M Q gs=.ok ys:=by
 induction fs generalizing gs with
 |nil=>
   intro ys hy;cases gs with
   |nil=>exact hy
   |cons g gs=>simp at hl
 |cons f fs ih=>
   intro ys hy;cases gs with
   |nil=>simp at hl
   |cons g gs=>
     unfold Aa at hy ⊢;cases hf:f L S with
     |error e=>rw[hf]at hy;cases hy
     |ok y=>
       rw[hf]at hy;have h0:=h 0 f g rfl rfl y hf;cases hr:Aa L S fs with
       |error e=>rw[hr]at hy;cases hy
       |ok r=>rw[hr]at hy;rw[h0,ih (gs:=gs) (λj f' g' hf' hg'=>h (j+1) f' g' (by simpa using hf') (by simpa using hg')) (by simpa using hl) r hr];exact hy
def B01(y:Ty):∀(ps:List E8)(fs gs:List iy)(out:Option Ty),fs.length=gs.length->(∀(j:Nat) p f g b,ps[j]?=some p->fs[j]?=some f->gs[j]?=some g->p.binds y=some b->pQ (f (L++b.map Em) S) (g (M++b.map Em) Q))->
 pQ (CJ y L S (ps.zip fs) out) (CJ y M Q (ps.zip gs) out)
 |[],_,_,out,_,_=>λB h=>by simpa[CJ]using h
 |p::ps,[],[],out,_,_=>λB h=>by simpa[CJ]using h
 |p::ps,[],_::_,out,hl,_=>by simp at hl
 |p::ps,_::_,[],out,hl,_=>by simp at hl
 |p::ps,f::fs,g::gs,out,hl,h=>by
   intro B hB;rw[zPq,CJ]at hB ⊢;cases hb:p.binds y with
   |none=>rw[hb]at hB;cases hB
   |some b=>
     rw[hb]at hB;simp only at hB ⊢;have h0:=h 0 p f g b rfl rfl rfl hb;have rc:=λout=>B01 y ps fs gs out (by simpa using hl) λj p' f' g' b' Ip hf' hg' HV=>h (j+1) p' f' g' b' (by simpa using Ip) (by simpa using hf') (by simpa using hg') HV;cases hf:f (L++b.map Em) S with
     |error e=>rw[hf]at hB;cases hB
     |ok a=>
       rw[hf]at hB;rw[h0 a hf];simp only[Except.bind]at hB ⊢;cases out with
       |none=>exact rc _ B hB
       |some o=>
         simp only at hB ⊢;by_cases e:a=o
         ·rw[D5 e]at hB ⊢;exact rc _ B hB
         ·rw[C8 e]at hB;cases hB
def l_(hS:∀x∈S,x∈Q){a:Ty}(h:GD S a=true):GD Q a=true:=B0c.2 λv hv=>hS v (B0c.1 h v hv)
def C3q(t:Tm)(hS:∀x∈S,x∈Q)(k:List Ty):pQ (Ea t S k) (Ea (t.V7 ks) Q k):=by
 intro B h;unfold Ea at h ⊢;simp only[Tm.B2Q]at h ⊢;have e1:(t.V7 ks).op=t.op:=rfl;have e2:(t.V7 ks).a=t.a:=rfl;have e3:(t.V7 ks).b=t.b:=rfl;rw[e1,e2,e3];by_cases c:t.A8=16
 ·simp only[c,Int.reduceEq,F9,H5]at h ⊢;by_cases hi:(GD S t.a&&GD S t.b)=true
  ·rw[D5 hi]at h;rw[z0q]at hi;rw[D5 (by rw[z0q];exact⟨l_ hS hi.1,l_ hS hi.2⟩)];exact h
  ·rw[C8 hi]at h;cases h
 ·simp only[c,F9]at h ⊢;exact h
theorem B5x(t:Tm)(ks:List Tm)(gs:List iy)(M:List Nm)(Q:List Int):De (t.V7 ks) gs M Q=De t gs M Q:=rfl
def A14(k1:t.A8≠1)(rp:∀p∈t.H8,p.pat=true)(hl:fs.length=gs.length)(hS:∀x∈S,x∈Q)(hT:takes S t.vars=true->takes Q t.vars=true)(H:∀(j:Nat) f g,fs[j]?=some f->gs[j]?=some g->∀(m:List Nm)(V:List Int),mI m (t.binds j)->(V=[]\/takes S t.vars=true/\V=t.vars)->pQ (f (L++m) (V++S)) (g (M++m) (V++Q))):
 pQ (De t fs L S) (De (t.V7 ks) gs M Q):=by
 have F:∀(j:Nat)(m:List Nm)(V:List Int),mI m (t.binds j)->(V=[]\/takes S t.vars=true/\V=t.vars)->pQ (fs.getD j (λ_ _=>.error 4) (L++m) (V++S)) (gs.getD j (λ_ _=>.error 4) (M++m) (V++Q)):=by
  intro j m V hm hV;rw[z4q,z4q];cases hf:fs[j]? with
  |none=>intro B h;cases h
  |some f=>
    have:j<gs.length:=by rw[<- hl];exact(zjq.1 hf).1
    rw[z1q this];exact H j f gs[j] hf (z1q this) m V hm hV
 have F0:∀(j:Nat)(V:List Int),t.binds j=[]->(V=[]\/takes S t.vars=true/\V=t.vars)->pQ (fs.getD j (λ_ _=>.error 4) L (V++S)) (gs.getD j (λ_ _=>.error 4) M (V++Q)):=by intro j V hb hV;have:=F j [] V (by rw[hb];intro n;simp) hV;simpa using this
 rw[B5x];unfold De;simp only[];rw[C8 k1,C8 k1];by_cases c2:t.A8=2\/t.A8=3\/t.A8=4\/t.A8=5
 ·rw[D5 c2,D5 c2];exact λB h=>h
 rw[C8 c2,C8 c2];by_cases c7:t.A8=7
 ·rw[D5 c7,D5 c7];exact vT (l_ hS) λ_ B h=>h
 rw[C8 c7,C8 c7];by_cases c9:t.A8=9
 ·rw[D5 c9,D5 c9];refine vT (l_ hS) λ_=>xx ?_ λy _ B h=>h;exact F 0 [⟨t.name,t.a,[]⟩] [] (by unfold Tm.binds;rw[D5 (.inl c9)];intro n;simp) (.inl rfl)
 rw[C8 c9,C8 c9];by_cases c11:t.A8=11
 ·rw[D5 c11,D5 c11];refine vT hT λht=>xx ?_ λy _=>?_
  ·exact F0 0 t.vars (by unfold Tm.binds;rw[C8 (by omega),C8 (by omega),C8 (by omega)]) (.inr ⟨ht,rfl⟩)
  ·exact F 1 [⟨t.name,y,t.vars⟩] [] (by unfold Tm.binds;rw[D5 (.inr (.inl ⟨c11,rfl⟩))];intro n;simp) (.inl rfl)
 rw[C8 c11,C8 c11];by_cases c12:t.A8=12
 ·rw[D5 c12,D5 c12];refine vT hT λht=>vT (λh=>⟨l_ (λx hx=>?_) h.1,l_ (λx hx=>?_) h.2⟩) λ_=>xx ?_ λy _=>vT (λh=>h) λ_=>?_
  ·rcases z2q.1 hx with g | g
   ·exact z2q.2 (.inl g)
   ·exact z2q.2 (.inr (hS x g))
  ·rcases z2q.1 hx with g | g
   ·exact z2q.2 (.inl g)
   ·exact z2q.2 (.inr (hS x g))
  ·exact F 0 [⟨t.name,.mk 9 0 [t.a,t.b],[]⟩,⟨t.arg,t.a,[]⟩] t.vars (by unfold Tm.binds;rw[C8 (by omega),D5 c12];intro n;simp) (.inr ⟨ht,rfl⟩)
  ·exact F 1 [⟨t.name,.mk 9 0 [t.a,t.b],t.vars⟩] [] (by unfold Tm.binds;rw[D5 (.inr (.inr ⟨c12,rfl⟩))];intro n;simp) (.inl rfl)
 rw[C8 c12,C8 c12];have nob:t.A8≠14->∀j,t.binds j=[]:=λh j=>by unfold Tm.binds;rw[C8 (by omega),C8 (by omega),C8 (by omega)]
 by_cases c14:t.A8=14
 ·rw[D5 c14,D5 c14];refine xx (F0 0 [] (by unfold Tm.binds;rw[C8 (by omega),C8 (by omega),C8 (by omega)]) (.inl rfl)) λy _=>?_;refine B01 y t.H8 (fs.drop 1) (gs.drop 1) none (by simp[hl]) λj p f g b hp hf hg hb=>?_;rw[zQq]at hf hg;refine H (1+j) f g hf hg (b.map Em) [] (λn=>?_) (.inl rfl);have hn:=E8.qd p (rp p (zfq hp)) y b hb;have TU:t.binds (1+j)=p.names:=by unfold Tm.binds;rw[C8 (by omega),C8 (by omega),D5 ⟨c14,by omega⟩,show 1+j-1=j by omega,hp]
  rw[TU,<- hn,zUq];rfl
 ·rw[C8 c14,C8 c14];intro B hB;cases hk:Aa L S fs with
  |error e=>rw[hk]at hB;cases hB
  |ok k=>
    rw[hk]at hB;rw[B9g (gs:=gs) (M:=M) (Q:=Q) (λj f g hf hg=>by have:=H j f g hf hg [] [] (by rw[nob c14 j];intro n;simp) (.inl rfl);simpa using this) hl k hk]
    exact C3q (ks:=t.D6) t hS k B hB
end
def Tm.vs:Tm->List Int
 |.mk _ _ _ _ _ _ _ _ _ _ vs _ _ _ _ ks=>vs++(ks.map Tm.vs).flatten
theorem Tm.B8V(t:Tm):t.vs=t.vars++t.D6.flatMap Tm.vs:=by cases t;rw[Tm.vs];rfl
variable {t:Tm}
def Tm.C0S{k:Tm}(hk:k∈t.D6){x:Int}(h:x∈k.vs):x∈t.vs:=by rw[Tm.B8V];exact z2q.2 (.inr (List.mem_flatMap.2 ⟨k,hk,h⟩))
def Tm.C0T{x:Int}(h:x∈t.vars):x∈t.vs:=by rw[Tm.B8V];exact z2q.2 (.inl h)
def Tm.Oi(h:t.right=true):∀p∈t.H8,p.pat=true:=by intro p hp;have h1:=Tm.Z4 h;unfold Tm.one Tm.Kv Tm.LW Tm.LX Tm.Mc Tm.Nj Tm.lists at h1;simp only[z0q,z6q]at h1;have:=h1.2.2.2.2.2.2.2 p hp;unfold E8.right at this;rw[z0q]at this;exact this.1
def A9W(t:Tm):t.right=true->∀(L M:List Nm)(S Q:List Int),(∀n,n∈t.fr []->Dh M n=Dh L n)->(∀x∈S,x∈Q)->(∀x∈Q,x∈S\/x∉t.vs)->pQ (ck t L S) (ck t M Q):=by
 induction t using Tm.ind with
 |h t ih=>
   intro rt L M S Q hN hS hQ;rw[LF];by_cases k1:t.A8=1
   ·have hl:=hN t.name (Tm.DD.2 (.inl ⟨k1,rfl,by simp⟩));unfold Dh at hl;intro B h;unfold De at h ⊢;rw[D5 k1]at h ⊢;rw[hl];cases hf:L.reverse.find? λx=>decide (x.name=t.name)with
    |none=>rw[hf]at h;cases h
    |some x=>
      rw[hf]at h;simp only at h ⊢;by_cases hv:x.vars.length=t.args.length
      ·rw[D5 hv]at h ⊢;by_cases ha:t.args.all (GD S)=true
       ·rw[D5 ha]at h;rw[D5 (by rw[z6q]at ha ⊢;exact λy hy=>l_ hS (ha y hy))];exact h
       ·rw[C8 ha]at h;cases h
      ·rw[C8 hv]at h;cases h
   ·have tk:takes S t.vars=true->takes Q t.vars=true:=λh=>by
     rw[qH]at h ⊢;refine⟨h.1,λv hv hq=>?_⟩;rcases hQ v hq with g | g
     ·exact h.2 v hv g
     ·exact g (Tm.C0T hv)
    have:=A14 (t:=t) (ks:=t.D6) (fs:=t.D6.map ck) (gs:=t.D6.map ck) (L:=L) (M:=M) (S:=S) (Q:=Q) k1 (Tm.Oi rt) rfl hS tk λj f g hf hg m V hm hV=>by
     rw[hf]at hg;simp only[D9]at hg;subst hg;rw[zyq]at hf;cases hk:t.D6[j]? with
     |none=>rw[hk]at hf;cases hf
     |some k=>
       rw[hk,z8q,D9]at hf;subst hf;have mem:=zfq hk;refine ih k mem (Tm.M8 rt mem) (L++m) (M++m) (V++S) (V++Q) (λn hn=>?_) (λx hx=>?_) λx hx=>?_
       ·rw[MJ,MJ];by_cases hb:n∈m.map Nm.name
        ·obtain⟨x,hx⟩:=xy hb;rw[hx];rfl
        ·rw[hN n (Tm.DD.2 (.inr ⟨j,k,hk,(Tm.vL k ([]++t.binds j) [] n (by simp)).2 ⟨hn,by simpa[<- hm n]using hb⟩⟩))]
       ·rcases z2q.1 hx with g | g
        ·exact z2q.2 (.inl g)
        ·exact z2q.2 (.inr (hS x g))
       ·rcases z2q.1 hx with g | g
        ·exact .inl (z2q.2 (.inl g))
        ·rcases hQ x g with g | g
         ·exact .inl (z2q.2 (.inr g))
         ·exact .inr λh=>g (Tm.C0S mem h)
    rw[Tm.fE]at this;exact this
def Except.bind_ok{α β : Type}{r:Except Int α}{f : α->Except Int β}{B : β}(h:r.bind f=.ok B):∃y,r=.ok y/\f y=.ok B:=by
 cases r with
 |error e=>cases h
 |ok y=>exact⟨y,rfl,h⟩
def JK{c:Prop}[Decidable c]{r:Res}{e:Int}{B:Ty}(h:(if c then r else .error e)=.ok B):c/\r=.ok B:=by
 by_cases hc:c
 ·rw[D5 hc]at h;exact⟨hc,h⟩
 ·rw[C8 hc]at h;cases h
def A5t{L:List Nm}{S:List Int}:∀(fs:List iy)(ys:List Ty),Aa L S fs=.ok ys->∀(j:Nat) f,fs[j]?=some f->∃Y,f L S=.ok Y
 |[],_,_,j,f,hf=>by simp at hf
 |g::fs,ys,h,j,f,hf=>by
   unfold Aa at h;obtain⟨y,h1,h⟩:=Except.bind_ok h;obtain⟨zs,h2,_⟩:=Except.bind_ok h;cases j with
   |zero=>simp only[zcq,D9]at hf;subst hf;exact⟨y,h1⟩
   |succ j=>exact A5t fs zs h2 j f (by simpa using hf)
def A13{L:List Nm}{S:List Int}(y:Ty):∀(ps:List E8)(fs:List iy)(out:Option Ty)(B:Ty),CJ y L S (ps.zip fs) out=.ok B->∀(j:Nat) p f,ps[j]?=some p->fs[j]?=some f->∃b Y,p.binds y=some b/\f (L++b.map Em) S=.ok Y
 |[],_,_,_,_,j,p,f,hp,_=>by simp at hp
 |_::_,[],_,_,_,j,p,f,_,hf=>by simp at hf
 |q::ps,g::fs,out,B,h,j,p,f,hp,hf=>by
   rw[zPq,CJ]at h;cases hb:q.binds y with
   |none=>rw[hb]at h;cases h
   |some b=>
     rw[hb]at h;obtain⟨a,h1,h⟩:=Except.bind_ok h;cases j with
     |zero=>simp only[zcq,D9]at hp hf;subst hp hf;exact⟨b,a,hb,h1⟩
     |succ j=>
       have Ip:ps[j]?=some p:=by simpa using hp
       have hf':fs[j]?=some f:=by simpa using hf
       cases out with
       |none=>exact A13 y ps fs _ B h j p f Ip hf'
       |some o=>exact A13 y ps fs _ B (JK h).2 j p f Ip hf'
def ql{fs:List iy}{L:List Nm}{S:List Int}{B:Ty}(rt:t.right=true)(hl:fs.length=t.D6.length)(h:De t fs L S=.ok B)(j:Nat)(f:iy)(hf:fs[j]?=some f):
 ∃(m:List Nm)(V:List Int)(Y:Ty),mI m (t.binds j)/\(V=[]\/takes S t.vars=true/\V=t.vars)/\f (L++m) (V++S)=.ok Y:=by
 have hj:j<fs.length:=(zjq.1 hf).1;have hk:(t.D6.length:Int)=R7 t.A8 t.H8.length:=by have h1:=Tm.Z4 rt;unfold Tm.one at h1;simp only[z0q,F5]at h1;exact h1.1.1.1.1.1.2
 have gd:fs.getD j (λ_ _=>.error 4)=f:=by rw[z4q,hf];rfl
 have plain:∀(V:List Int)(Y:Ty),t.binds j=[]->(V=[]\/takes S t.vars=true/\V=t.vars)->f L (V++S)=.ok Y->∃(m:List Nm)(V:List Int)(Y:Ty),mI m (t.binds j)/\(V=[]\/takes S t.vars=true/\V=t.vars)/\f (L++m) (V++S)=.ok Y :=λV Y hb hV hY=>⟨[],V,Y,by rw[hb];intro n;simp,hV,by simpa using hY⟩
 unfold R7 at hk;unfold De at h;simp only[]at h;by_cases k1:t.A8=1
 ·have:t.D6.length=0:=by simp[k1]at hk;simp[hk]
  omega
 rw[C8 k1]at h;by_cases c2:t.A8=2\/t.A8=3\/t.A8=4\/t.A8=5
 ·have:t.D6.length=0:=by rcases c2 with c | c | c | c<;>simp[c]at hk<;>simp[hk]
  omega
 rw[C8 c2]at h;by_cases c7:t.A8=7
 ·have:t.D6.length=0:=by simp[c7]at hk;simp[hk]
  omega
 rw[C8 c7]at h;by_cases c9:t.A8=9
 ·have j0:j=0:=by simp[c9]at hk;omega
  subst j0;rw[D5 c9]at h;obtain⟨y,h1,_⟩:=Except.bind_ok (JK h).2;rw[gd]at h1;exact⟨[⟨t.name,t.a,[]⟩],[],y,by unfold Tm.binds;rw[D5 (.inl c9)];intro n;simp,.inl rfl,h1⟩
 rw[C8 c9]at h;by_cases c11:t.A8=11
 ·have j1:j=0\/j=1:=by simp[c11]at hk;omega
  rw[D5 c11]at h;obtain⟨ht,h⟩:=JK h;obtain⟨y,h1,h2⟩:=Except.bind_ok h;rcases j1 with rfl | rfl
  ·rw[gd]at h1;exact plain t.vars y (by unfold Tm.binds;rw[C8 (by omega),C8 (by omega),C8 (by omega)]) (.inr ⟨ht,rfl⟩) h1
  ·rw[gd]at h2;exact⟨[⟨t.name,y,t.vars⟩],[],B,by unfold Tm.binds;rw[D5 (.inr (.inl ⟨c11,rfl⟩))];intro n;simp,.inl rfl,h2⟩
 rw[C8 c11]at h;by_cases c12:t.A8=12
 ·have j1:j=0\/j=1:=by simp[c12]at hk;omega
  rw[D5 c12]at h;obtain⟨ht,h⟩:=JK h;obtain⟨y,h1,h2⟩:=Except.bind_ok (JK h).2;rcases j1 with rfl | rfl
  ·rw[gd]at h1;exact⟨[⟨t.name,.mk 9 0 [t.a,t.b],[]⟩,⟨t.arg,t.a,[]⟩],t.vars,y,by unfold Tm.binds;rw[C8 (by omega),D5 c12];intro n;simp,.inr ⟨ht,rfl⟩,h1⟩
  ·have h2:=(JK h2).2;rw[gd]at h2;exact⟨[⟨t.name,.mk 9 0 [t.a,t.b],t.vars⟩],[],B,by unfold Tm.binds;rw[D5 (.inr (.inr ⟨c12,rfl⟩))];intro n;simp,.inl rfl,h2⟩
 rw[C8 c12]at h;have nob:t.A8≠14->t.binds j=[]:=λh=>by unfold Tm.binds;rw[C8 (by omega),C8 (by omega),C8 (by omega)]
 by_cases c14:t.A8=14
 ·rw[D5 c14]at h;obtain⟨y,h1,h2⟩:=Except.bind_ok h;have Bl:t.D6.length=t.H8.length+1:=by simp[c14]at hk;omega
  cases j with
  |zero=>rw[gd]at h1;exact plain [] y (by unfold Tm.binds;rw[C8 (by omega),C8 (by omega),C8 (by omega)]) (.inl rfl) h1
  |succ j=>
    have hp:j<t.H8.length:=by omega
    obtain⟨b,Y,hb,hY⟩:=A13 y t.H8 (fs.drop 1) none B h2 j t.H8[j] f (z1q hp) (by rw[zQq,Nat.add_comm];exact hf);refine⟨b.map Em,[],Y,λn=>?_,.inl rfl,hY⟩;have hn:=E8.qd _ (Tm.Oi rt _ (z9q hp)) y b hb;have TU:t.binds (j+1)=t.H8[j].names:=by unfold Tm.binds;rw[C8 (by omega),C8 (by omega),D5 ⟨c14,by omega⟩,show j+1-1=j by omega,z1q hp]
    rw[TU,<- hn,zUq];rfl
 ·rw[C8 c14]at h;obtain⟨k,h1,_⟩:=Except.bind_ok h;obtain⟨Y,hY⟩:=A5t fs k h1 j f hf;exact plain [] Y (nob c14) (.inl rfl) hY
def C5f(s:ByteArray)(v:Tm)(A:Ty)(rv:v.right=true)(hv:v.free=[])(hA:ck v [] []=.ok A)(t:Tm):t.right=true->(∀x∈t.vs,x∉v.vs)->∀(L M:List Nm)(S:List Int)(B:Ty),s∉M.map Nm.name->(∀x∈S,x∉v.vs)->
 ck t (L++⟨s,A,[]⟩::M) S=.ok B->∃u,t.Zb s v=some u/\ck u (L++M) S=.ok B:=by
 induction t using Tm.ind with
 |h t ih=>
   intro rt UU L M S B hs hS h;have lk:∀n,n≠s\/n∈M.map Nm.name->Dh (L++M) n=Dh (L++⟨s,A,[]⟩::M) n:=by
    intro n hn;rw[MJ,show L++⟨s,A,[]⟩::M=(L++[⟨s,A,[]⟩])++M by simp,MJ (L++_),MJ L];by_cases hm:n∈M.map Nm.name
    ·obtain⟨x,hx⟩:=xy hm;rw[hx];rfl
    ·rw[A86 (m:=[⟨s,A,[]⟩]) (n:=n) (by simpa using hn.resolve_right hm)];rfl
   rw[LF]at h;by_cases k1:t.A8=1
   ·rw[Tm.A4x,D5 k1];by_cases hn:t.name=s
    ·rw[D5 hn];have found:Dh (L++⟨s,A,[]⟩::M) t.name=some ⟨s,A,[]⟩:=by rw[hn,show L++⟨s,A,[]⟩::M=(L++[⟨s,A,[]⟩])++M by simp,MJ,A86 hs,MJ];simp[Dh]
     unfold Dh at found;unfold De at h;rw[D5 k1,found]at h;simp only[zbq]at h;by_cases ha:0=t.args.length
     ·rw[D5 ha]at h;have a0:t.args=[]:=zxq.1 ha.symm;rw[a0]at h;simp only[List.all_nil,H5,zSq,Ty.B0n,Except.ok.injEq]at h;subst h;rw[D5 ha.symm];refine⟨v,rfl,A9W v rv [] (L++M) [] S (λn hn=>absurd hn (Tm.V_ hv [] n)) (by simp) (λx hx=>.inr (hS x hx)) A hA⟩
     ·rw[C8 ha]at h;cases h
    ·rw[C8 hn];refine⟨t,rfl,?_⟩;have l2:=lk t.name (.inl hn);unfold Dh at l2;rw[LF];unfold De at h ⊢;rw[D5 k1]at h ⊢;rw[l2];exact h
   ·rw[Tm.A4x,C8 k1];have kid:∀(j:Nat) k,t.D6[j]?=some k->∀(m:List Nm)(V:List Int)(Y:Ty),mI m (t.binds j)->(V=[]\/takes S t.vars=true/\V=t.vars)->ck k (L++⟨s,A,[]⟩::M++m) (V++S)=.ok Y->∃k',Tm.A7d t.binds s v j k=some k'/\ck k' (L++M++m) (V++S)=.ok Y:=by
     intro j k hk m V Y hm hV hY;have mem:=zfq hk;unfold Tm.A7d;by_cases hb:((t.binds j).any λx=>decide (x=s))=true
     ·rw[D5 hb];refine⟨k,rfl,A9W k (Tm.M8 rt mem) _ _ _ _ (λn _=>?_) (λx hx=>hx) (λx hx=>.inl hx) Y hY⟩;rw[MJ (L++M) m,MJ (L++⟨s,A,[]⟩::M) m];by_cases hn:n=s
      ·obtain⟨x,hx⟩:=xy (m:=m) (n:=n) ((hm n).2 (by rw[hn];exact sU.1 hb));rw[hx];rfl
      ·rw[lk n (.inl hn)]
     ·rw[C8 hb];have hs2:s∉(M++m).map Nm.name:=by
       rw[zYq,z2q];rintro(g | g)
       ·exact hs g
       ·exact hb (sU.2 ((hm s).1 g))
      have hS2:∀x∈V++S,x∉v.vs:=λx hx=>by
       rcases z2q.1 hx with g | g
       ·rcases hV with rfl | ⟨_,rfl⟩
        ·cases g
        ·exact UU x (Tm.C0T g)
       ·exact hS x g
      obtain⟨k',h1,h2⟩:=ih k mem (Tm.M8 rt mem) (λx hx=>UU x (Tm.C0S mem hx)) L (M++m) (V++S) Y hs2 hS2 (by simpa[zzq]using hY);exact⟨k',h1,by simpa[zzq]using h2⟩
    have some1:∀(j:Nat) k,t.D6[j]?=some k->∃k',Tm.A7d t.binds s v j k=some k':=by intro j k hk;obtain⟨m,V,Y,hm,hV,hY⟩:=ql rt (by simp) h j (ck k) (by rw[zyq,hk];rfl);obtain⟨k',h1,_⟩:=kid j k hk m V Y hm hV hY;exact⟨k',h1⟩
    have put:Tm.LJ t.binds 0 t.D6 s v=some (t.D6.mapIdx λj k=>(Tm.A7d t.binds s v j k).getD k):=by refine Tm.B4w (by simp) λj k k' hk CR=>?_;obtain⟨k2,h2⟩:=some1 j k hk;rw[zLq,hk,z8q,D9]at CR;rw[zFq,h2,<- CR,h2];rfl
    rw[put];refine⟨_,rfl,?_⟩;rw[LF];refine A14 (t:=t) (fs:=t.D6.map ck) (L:=L++⟨s,A,[]⟩::M) (S:=S) k1 (Tm.Oi rt) (by simp) (λx hx=>hx) (λh=>h) (λj f g hf hg m V hm hV=>?_) B h;rw[zyq]at hf hg;cases hk:t.D6[j]? with
    |none=>rw[hk]at hf;cases hf
    |some k=>rw[hk,z8q,D9]at hf;subst hf;rw[Tm.FT,zLq,hk,z8q,z8q,D9]at hg;subst hg;intro Y hY;obtain⟨k',h1,h2⟩:=kid j k hk m V Y hm hV hY;rw[h1];exact h2
end Go.Su

/-
 TERMS: types put for variables.
-/
namespace Go.Su
set_option linter.defProp false
abbrev Es:=List (Int×Ty)
variable (l:Es)(vs:List Int)
def X8:Es:=l.filter λb=> !decide (b.1∈vs)
def C06:X8 l []=l:=by simp[X8]
def A6S:(X8 l vs).length<=l.length:=zGq ..
def C05{l:Es}{vs:List Int}{b:Int×Ty}(h:b∈X8 l vs):b∈l:=(List.mem_filter.1 h).1
def Ty.Az(t:Ty):Ty:=if t.A8=0 then t else t.put l
mutual
def Tm.Fb:Tm->Es->Tm
 |.mk k lo hi nm ar n s op lb ng vs a b ys ps ks,l=>.mk k lo hi nm ar n s op lb ng vs (a.Az (if k=12 then X8 l vs else l)) (b.Az (if k=12 then X8 l vs else l)) (ys.map (Ty.Az l)) ps (Tm.LP ks (X8 l vs) l)
def Tm.LP:List Tm->Es->Es->List Tm
 |[],_,_=>[]
 |k::ks,i,l=>k.Fb i::Tm.LP ks l l
end
theorem Tm.WO(t:Tm)(l:Es):t.Fb l=.mk t.A8 t.lo t.hi t.name t.arg t.n t.s t.op t.label t.neg t.vars (t.a.Az (if t.A8=12 then X8 l t.vars else l)) (t.b.Az (if t.A8=12 then X8 l t.vars else l)) (t.args.map (Ty.Az l)) t.H8 (Tm.LP t.D6 (X8 l t.vars) l):=by cases t;rw[Tm.Fb];rfl
def Tm.A39(i l:Es):Tm.LP [] i l=[]:=by rw[Tm.LP]
def Tm.yh(k:Tm)(ks:List Tm)(i l:Es):Tm.LP (k::ks) i l=k.Fb i::Tm.LP ks l l:=by rw[Tm.LP]
def Tm.iQ(l:Es):∀ks:List Tm,Tm.LP ks l l=ks.map λk=>k.Fb l
 |[]=>Tm.A39 ..
 |k::ks=>by rw[Tm.yh,Tm.iQ l ks,zgq]
def Tm.WN(i l:Es):∀ks:List Tm,(Tm.LP ks i l).length=ks.length
 |[]=>by rw[Tm.A39]
 |k::ks=>by rw[Tm.yh,zaq,zaq,Tm.iQ,zXq]
def MS(j:Nat)(i l:Es):Es:=if j=0 then i else l
def Tm.cB(i l:Es)(ks:List Tm)(j:Nat):(Tm.LP ks i l)[j]?=(ks[j]?).map λk=>k.Fb (MS j i l):=by
 cases ks with
 |nil=>rw[Tm.A39];simp
 |cons k ks=>
   rw[Tm.yh];cases j with
   |zero=>simp[MS]
   |succ j=>simp[MS,Tm.iQ]
def Ty.B1D(l:Es){t:Ty}(h:t.none=true):t.Az l=t:=by unfold Ty.Az;rw[D5];unfold Ty.none at h;simp only[z0q,F5]at h;exact h.1.1
def TA{l:Es}(h:Ae l=true)(vs:List Int):Ae (X8 l vs)=true:=by unfold Ae at h ⊢;rw[z6q]at h ⊢;exact λb hb=>h b (C05 hb)
end Go.Su

/-
 TERMS: types put for variables leave a right term right.
-/
namespace Go.Su
set_option linter.defProp false
def Ty.A7e(t:Ty):t.Az []=t:=by unfold Ty.Az;rw[Ty.B0n,ite_self]
def B4g{α : Type}{f : α -> α}{l:List α}(h:∀x∈l,f x=x):l.map f=l:=by
 conv=>rhs;rw[<- List.map_id l]
 exact List.map_congr_left h
theorem B85(vs:List Int):X8 [] vs=[]:=rfl
theorem Tm.ym(t:Tm):t.Fb []=t:=by
 induction t using Tm.ind with
 |h t ih=>rw[Tm.WO,B85,ite_self,Ty.A7e,Ty.A7e,Tm.iQ,B4g ih,B4g λy _=>Ty.A7e y];cases t;rfl
def Tm.C3Z{t:Tm}(h:t.one=true){a b:Ty}{ys:List Ty}{ks:List Tm}(ha:z8 (kA t.A8) a=true)(hb:z8 (kB t.A8) b=true)(hy:ys.all Ty.right=true)(hyl:ys.length=t.args.length)(hk:ks.length=t.D6.length):
 (Tm.mk t.A8 t.lo t.hi t.name t.arg t.n t.s t.op t.label t.neg t.vars a b ys t.H8 ks).one=true:=by
 unfold Tm.one Tm.Kv Tm.LW Tm.LX Tm.Mc Tm.Nj Tm.lists at h ⊢;simp only[Tm.Cn,Tm.aP,Tm.aN,Tm.DU,Tm.Jc,Tm.Vn,Tm.Oj,Tm.yB,Tm.Vk,Tm.mJ,Tm.JR,Tm.jV,Tm.jY,Tm.Pg,Tm.Gu,Tm.U6,hyl,hk];rw[z0q]at h ⊢;obtain⟨h1,h2⟩:=h;rw[z0q,z0q]at h1 ⊢;refine⟨⟨⟨h1.1.1,ha⟩,hb⟩,?_⟩;rw[z0q]at h2 ⊢;refine⟨h2.1,?_⟩;have h3:=h2.2;rw[z0q]at h3 ⊢;refine⟨h3.1,?_⟩;have h4:=h3.2;rw[z0q]at h4 ⊢;refine⟨h4.1,?_⟩;have h5:=h4.2;rw[z0q]at h5 ⊢;refine⟨h5.1,?_⟩;have h6:=h5.2;rw[z0q]at h6 ⊢;refine⟨h6.1,?_⟩;have h7:=h6.2;rw[z0q,z0q]at h7 ⊢;exact⟨⟨h7.1.1,hy⟩,h7.2⟩
variable {t:Ty}
def Ty.A84(h:t.right=true):t.A8≠0:=λh0=>by have:=(Ty.CS.1 h).1;rw[h0]at this;simp[X3]at this
def Ty.A9m{l:Es}(hl:Ae l=true)(h:t.right=true):(t.Az l).right=true:=by unfold Ty.Az;rw[C8 (Ty.A84 h)];exact Ty.B1K (λe he=>(S_.1 hl e he).2.2) t h
def A6L{l:Es}(hl:Ae l=true){k:Bool}(h:z8 k t=true):z8 k (t.Az l)=true:=by
 unfold z8 at h ⊢;split
 ·next hk=>rw[D5 hk]at h;exact Ty.A9m hl h
 ·next hk=>rw[C8 hk]at h;rw[Ty.B1D l h];exact h
def Tm.B8S(t:Tm):t.right=true->∀l:Es,Ae l=true->(t.Fb l).right=true:=by
 induction t using Tm.ind with
 |h t ih=>
   intro rt l hl;have o:=Tm.Z4 rt;have o':=o;unfold Tm.one Tm.Kv Tm.LW Tm.LX Tm.Mc Tm.Nj Tm.lists at o';simp only[z0q]at o';have RP:Ae (if t.A8=12 then X8 l t.vars else l)=true:=by
    split
    ·exact TA hl _
    ·exact hl
   rw[Tm.WO,Tm.right_eq,z0q];refine⟨Tm.C3Z o (A6L RP o'.1.1.2) (A6L RP o'.1.2) ?_ (by simp) (Tm.WN ..),?_⟩
   ·have:=o'.2.2.2.2.2.2.1.2;rw[z6q]at this ⊢;intro y hy;obtain⟨z,hz,rfl⟩:=zkq.1 hy;exact Ty.A9m hl (this z hz)
   ·rw[z6q];intro k hk;rw[Tm.U6]at hk;obtain⟨j,hj,rfl⟩:=ziq.1 hk;have g:=Tm.cB (X8 l t.vars) l t.D6 j;rw[z1q hj]at g;have BS:j<t.D6.length:=by rw[Tm.WN]at hj;exact hj
    rw[z1q BS,z8q,D9]at g;rw[g];refine ih _ (z9q BS) (Tm.M8 rt (z9q BS)) _ ?_;unfold MS;split
    ·exact TA hl _
    ·exact hl
end Go.Su

/-
 THE CHECKER OF TERMS: what has a type is turned by no types put for variables that it neither binds nor has in scope.
-/
namespace Go.Su
end Go.Su

/-
 EXPRESSIONS WITHOUT TYPES: a step leaves closed what is closed.
-/
namespace Go.Su
end Go.Su

/-
 EXPRESSIONS WITHOUT TYPES: a step leaves closed what is closed.
-/
namespace Go.Su
end Go.Su

/-
 EXPRESSIONS WITHOUT TYPES: how great what stands at one place may become.
-/
namespace Go.Su
end Go.Su

/-
 EXPRESSIONS WITHOUT TYPES: a run, and what it tells.
-/
namespace Go.Su
def C6b:EY:=.mk 0 0 0 false []
def B8f:Val:=.mk 0 0 S9 C6b []
structure GZ where
 A8:Int
 val:Val
 label:Int
 neg:Bool
 lo:Int
 hi:Int
 steps:Int
def GZ.A9(r:GZ):DV:=.agg [.int .i64 r.A8,.int .i64 r.val.A8,.int .i64 r.val.n,.str r.val.s,.int .i64 r.val.c.A8,.int .i64 r.val.c.head,.int .i64 r.val.c.label,.bool r.val.c.neg,.list 5 (r.val.c.D6.map EY.A9),.list 9 (r.val.D6.map Val.A9),.int .i64 r.label,.bool r.neg,.int .i64 r.lo,.int .i64 r.hi,.int .i64 r.steps]
@[simp] theorem GZ.ag(r:GZ):AO r.A9=r.A9:=rfl
@[simp] theorem Q5(r:GZ):E5 15 r.A9=true:=rfl
end Go.Su

/-
 EXPRESSIONS WITHOUT TYPES: a run is its steps, and then reading.
-/
namespace Go.Su
end Go.Su

/-
 EXPRESSIONS WITHOUT TYPES: annotations turn nothing of a run.
-/
namespace Go.Su
end Go.Su

/-
 TERMS: a term put for a name, its variables for the name's types.
-/
namespace Go.Su
set_option linter.defProp false
mutual
def Tm.Cv:Tm->ByteArray->List Int->Tm->Option Tm
 |.mk k lo hi nm ar n ss op lb ng vs a b ys ps ks,s,xs,v=>
   if k=1 then(if nm=s then(if ys.length=xs.length then some (v.Fb (xs.zip ys))else none)else some (.mk k lo hi nm ar n ss op lb ng vs a b ys ps ks))
   else match Tm.Eo (Tm.binds (.mk k lo hi nm ar n ss op lb ng vs a b ys ps ks)) 0 ks s xs v with
    |some ks'=>some (.mk k lo hi nm ar n ss op lb ng vs a b ys ps ks')
    |none=>none
def Tm.Eo:(Nat->List ByteArray)->Nat->List Tm->ByteArray->List Int->Tm->Option (List Tm)
 |_,_,[],_,_,_=>some []
 |b,i,k::ks,s,xs,v=>
   match (if ((b i).any λx=>decide (x=s))=true then some k else Tm.Cv k s xs v)with
   |some k'=>match Tm.Eo b (i+1) ks s xs v with
     |some ks'=>some (k'::ks')
     |none=>none
   |none=>none
end
variable (s:ByteArray)(xs:List Int)
theorem Tm.Nl(v t:Tm):t.Cv s xs v=if t.A8=1 then(if t.name=s then(if t.args.length=xs.length then some (v.Fb (xs.zip t.args))else none)else some t)
 else(Tm.Eo t.binds 0 t.D6 s xs v).map t.V7:=by
 cases t;rw[Tm.Cv];simp only[Tm.Cn,Tm.DU,Tm.Pg,Tm.U6];generalize Tm.Eo _ _ _ _ _ _=y;cases y<;>rfl
def Tm.MP(b:Nat->List ByteArray)(s:ByteArray)(xs:List Int)(v:Tm)(i:Nat):Tm.Eo b i [] s xs v=some []:=by rw[Tm.Eo]
theorem Tm.Oh(b:Nat->List ByteArray)(s:ByteArray)(xs:List Int)(v:Tm)(i:Nat)(k:Tm)(ks:List Tm):
 Tm.Eo b i (k::ks) s xs v=(if ((b i).any λx=>decide (x=s))=true then some k else k.Cv s xs v).bind λk'=>(Tm.Eo b (i+1) ks s xs v).map (k' :: ·):=by
 rw[Tm.Eo];generalize (if ((b i).any λx=>decide (x=s))=true then some k else k.Cv s xs v)=x;cases x with
 |none=>rfl
 |some k'=>generalize Tm.Eo b (i+1) ks s xs v=y;cases y<;>rfl
def EG:Bool:=xs.all λx=>decide (0<=x)&&decide (x<=1048576)
def wB{xs:List Int}{ys:List Ty}(hx:EG xs=true)(hy:∀y∈ys,y.right=true):Ae (xs.zip ys)=true:=by unfold EG at hx;rw[S_];intro e he;rw[z6q]at hx;have h1:=zsq he;have h2:=hx _ h1.1;simp only[z0q,F5]at h2;exact⟨h2.1,h2.2,hy _ h1.2⟩
end Go.Su

/-
 TERMS: what a substitution with variables leaves is within bounds.
-/
namespace Go.Su
set_option linter.defProp false
inductive Tm.yQ:Tm->Prop where
 |mk (t:Tm):(t.a.size<=60/\t.b.size<=60/\∀y∈t.args,y.size<=60)->(∀k∈t.D6,k.yQ)->t.yQ
def Tm.B5m{t:Tm}(h:t.right=true):(t.a.right=true\/t.a.none=true)/\(t.b.right=true\/t.b.none=true)/\∀y∈t.args,y.right=true:=by
 have o:=Tm.Z4 h;unfold Tm.one Tm.Kv Tm.LW Tm.LX Tm.Mc Tm.Nj Tm.lists z8 at o;simp only[z0q,z6q]at o;refine⟨?_,?_,?_⟩
 ·have:=o.1.1.2;split at this
  ·exact .inl this
  ·exact .inr this
 ·have:=o.1.2;split at this
  ·exact .inl this
  ·exact .inr this
 ·exact o.2.2.2.2.2.2.1.2
def Tm.A3L{b:Nat->List ByteArray}{s:ByteArray}{xs:List Int}{v:Tm}:∀{ks ks':List Tm}{i:Nat},Tm.Eo b i ks s xs v=some ks'->ks'.length=ks.length
 |[],ks',i,h=>by rw[Tm.MP]at h;simp only[D9]at h;rw[<- h]
 |k::ks,ks',i,h=>by
   rw[Tm.Oh]at h;cases h1:(if ((b i).any λx=>decide (x=s))=true then some k else k.Cv s xs v)with
   |none=>rw[h1]at h;cases h
   |some k'=>
     rw[h1,znq]at h;cases h2:Tm.Eo b (i+1) ks s xs v with
     |none=>rw[h2]at h;cases h
     |some m=>rw[h2]at h;simp only[z8q,D9]at h;subst h;simp[Tm.A3L h2]
def Tm.B1F{b:Nat->List ByteArray}{s:ByteArray}{xs:List Int}{v:Tm}:∀{ks ks':List Tm}{i:Nat},Tm.Eo b i ks s xs v=some ks'->∀k'∈ks',k'∈ks\/∃k∈ks,k.Cv s xs v=some k'
 |[],ks',i,h=>by rw[Tm.MP]at h;simp only[D9]at h;subst h;simp
 |k::ks,ks',i,h=>by
   rw[Tm.Oh]at h;cases h1:(if ((b i).any λx=>decide (x=s))=true then some k else k.Cv s xs v)with
   |none=>rw[h1]at h;cases h
   |some k'=>
     rw[h1,znq]at h;cases h2:Tm.Eo b (i+1) ks s xs v with
     |none=>rw[h2]at h;cases h
     |some m=>
       rw[h2]at h;simp only[z8q,D9]at h;subst h;intro x hx;rcases zdq.1 hx with rfl | hx
       ·split at h1
        ·simp only[D9]at h1;subst h1;exact .inl (z5q ..)
        ·exact .inr ⟨k,z5q ..,h1⟩
       ·rcases Tm.B1F h2 x hx with h | ⟨y,hy,h⟩
        ·exact .inl (z3q _ h)
        ·exact .inr ⟨y,z3q _ hy,h⟩
end Go.Su

/-
 Judging an expression by a derivation: its types, its term, its casts. Mathematics alone.
-/
namespace Go.Su
def XG:Ty:=.mk 5 0 []
end Go.Su

/-
 COERCIONS: right ones, joined, of casts.
-/
namespace Go.Su
set_option linter.defProp false
variable (k:Int)
def C9p:Int:=if k=2 then 9 else if k=3 then 7 else if k=4 then 8 else 0
def N9:Ty:=.mk k 0 (List.replicate (X3 k).toNat XG)
def Ty.kd(t:Ty)(i:Nat):Ty:=t.D6.getD i O5
variable {t:Ty}
def Ty.U4{i:Nat}(h:i<t.D6.length):t.kd i∈t.D6:=by unfold Ty.kd;rw[z4q,z1q h];exact z9q h
theorem Ty.UV{i:Nat}(h:i<t.D6.length):t.D6[i]=t.kd i:=by unfold Ty.kd;rw[z4q,z1q h];rfl
def B7B:XG.right=true:=by rw[Ty.CS];simp[XG,X3]
def Ty.Qv(h:t.right=true)(hk:t.A8=5):t=XG:=by
 obtain⟨h1,h2,h3,h4,h5⟩:=Ty.CS.1 h;cases t with
 |mk k n ks=>simp only[Ty.Cn]at hk;subst hk;simp[X3]at h1 h4;have:ks=[]:=z7q (by omega);simp[XG,this,h4]
def Ty.A8b{a b:Ty}(ha:a.A8=5):a.agrees b=b.BC 6:=by rw[Ty.aj,D5 ha]
def Ty.B5u(a:Ty):a.right=true->∀b:Ty,b.right=true->a.agrees b=true->b.agrees a=true:=by
 induction a using Ty.ind with
 |h a ih=>
   intro ha b hb h;rw[Ty.aj]at h ⊢;by_cases a5:a.A8=5
   ·rw[D5 a5]at h;have:a.BC 6=true:=by rw[Ty.Qv ha a5,Ty.Ot];simp[XG]
    by_cases b5:b.A8=5
    ·rw[D5 b5];exact this
    ·rw[C8 b5,D5 a5];exact h
   ·rw[C8 a5]at h;by_cases b5:b.A8=5
    ·rw[D5 b5]at h;rw[D5 b5];exact h
    ·rw[C8 b5]at h;rw[C8 b5,C8 a5];simp only[z0q,F5,z6q]at h ⊢;refine⟨⟨h.1.1.symm,h.1.2.symm⟩,λp hp=>?_⟩;obtain⟨i,hi,rfl⟩:=List.getElem_of_mem hp;simp only[zIq]at hi;simp only[zTq];have ga:a.D6[i]∈a.D6:=z9q _;have gb:b.D6[i]∈b.D6:=z9q _;refine ih _ ga (Ty.M8 ha ga) _ (Ty.M8 hb gb) ?_;exact h.2 (a.D6[i],b.D6[i]) (ziq.2 ⟨i,by simp only[zIq];omega,by simp[zTq]⟩)
def VI{k:Int}(h:0<=X3 k):(N9 k).right=true:=by rw[Ty.CS];refine⟨by simp[N9];omega,by simp[N9],by simp[N9],by simp[N9],λt ht=>?_⟩;simp only[N9,Ty.U6,List.mem_replicate]at ht;rw[ht.2];exact B7B
def Ty.Bv(h:t.right=true):(t.D6.length:Int)=X3 t.A8:=(Ty.CS.1 h).1.symm
theorem Xw:(N9 k).D6=List.replicate (X3 k).toNat XG:=rfl
end Go.Su

/-
 VALUES: right ones, wrapped, taken apart, held against patterns.
-/
namespace Go.Su
def E8.kd(p:E8)(i:Nat):E8:=p.D6.getD i (.mk 0 0 0 S9 0 S9 [])
theorem E8.UV{p:E8}{i:Nat}(h:i<p.D6.length):p.D6[i]=p.kd i:=by unfold E8.kd;rw[z4q,z1q h];rfl
end Go.Su

/-
 THE MACHINE, as the document has it: states, steps.
-/
namespace Go.Su
set_option linter.defProp false
abbrev Cell:=ByteArray×Val
def Pz:Tm:=.mk 0 0 0 S9 S9 0 S9 0 0 false [] O5 O5 [] [] []
def Tm.kd(t:Tm)(i:Nat):Tm:=t.D6.getD i Pz
def Tm.U4{t:Tm}{i:Nat}(h:i<t.D6.length):t.kd i∈t.D6:=by unfold Tm.kd;rw[z4q,z1q h];exact z9q h
theorem Tm.UV{t:Tm}{i:Nat}(h:i<t.D6.length):t.D6[i]=t.kd i:=by unfold Tm.kd;rw[z4q,z1q h];rfl
def Bc(k:Int):GZ:=⟨k,B8f,0,false,0,0,0⟩
def Bw:GZ:=Bc 6
def B3g(l:Int)(n:Bool):GZ:=⟨2,B8f,l,n,0,0,0⟩
def atR(k lo hi:Int):GZ:=⟨k,B8f,0,false,lo,hi,0⟩
def iE(op a b:Int):Option Int :=
 if op=1 then some (IntKind.i64.wrap (a+b))else if op=2 then some (IntKind.i64.wrap (a-b))else if op=3 then some (IntKind.i64.wrap (a * b))
 else if op=4 then(if b=0 then none else some (IntKind.i64.wrap (a.tdiv b)))else if op=5 then some (if a<b then 1 else 0)else some (if a=b then 1 else 0)
end Go.Su

/-
 THE CALCULUS, as the document has it: values, casts, steps.
-/
namespace Go.Su
set_option linter.defProp false
noncomputable section
def Ty.isG(t:Ty):Bool:=decide (t.A8≠5/\t.A8≠6/\t=N9 t.A8)
def CB(a b:Ty):Bool:=if b.A8=5 then a.isG else decide (a.A8=b.A8)&&decide (a.A8=7\/a.A8=8\/a.A8=9)
def Tm.L9:Tm->Bool
 |.mk k _ _ _ _ _ _ _ _ _ _ a b _ _ ks=>
   if k=2\/k=3\/k=4\/k=5\/k=7\/k=9 then true
   else if k=6\/k=8 then(ks.map Tm.L9).all id
   else if k=16 then CB a b&&(ks.map Tm.L9).all id
   else false
variable (t:Tm)
theorem Tm.FY:t.L9 =
 if t.A8=2\/t.A8=3\/t.A8=4\/t.A8=5\/t.A8=7\/t.A8=9 then true
 else if t.A8=6\/t.A8=8 then t.D6.all Tm.L9
 else if t.A8=16 then CB t.a t.b&&t.D6.all Tm.L9
 else false:=by
 cases t;rw[Tm.L9];simp only[Tm.Cn,Tm.U6,Tm.jV,Tm.jY,List.all_map];rfl
inductive SR where
 |ok (t:Tm)
 |fin (r:GZ)
def SR.bind(x:SR)(f:Tm->SR):SR :=
 match x with
 |.ok t=>f t
 |.fin r=>.fin r
def J8(c:Tm)(neg:Bool)(a b:Ty)(t:Tm):Tm:=.mk 16 0 0 S9 S9 0 S9 0 c.label neg [] a b [] [] [t]
variable (v:Tm)
def X9:SR :=
 if t.a.D6=[]/\t.a=t.b then .ok v
 else if t.a.A8=5 then
  if t.b.A8=5\/t.b.A8=6 then .fin Bw
  else if t.b≠N9 t.b.A8 then .ok (J8 t t.neg (N9 t.b.A8) t.b (J8 t t.neg t.a (N9 t.b.A8) v))
  else if v.A8≠16\/v.b.A8≠5 then .fin Bw
  else if v.a=N9 t.b.A8 then .ok (v.kd 0)
  else .fin (B3g t.label t.neg)
 else if t.b.A8=5 then
  if t.a.A8=6 then .fin Bw else .ok (J8 t t.neg (N9 t.a.A8) t.b (J8 t t.neg t.a (N9 t.a.A8) v))
 else .fin Bw
def Tm.AR(i:Nat)(x:Tm):Tm:=.mk t.A8 t.lo t.hi t.name t.arg t.n t.s t.op t.label t.neg t.vars t.a t.b t.args t.H8 (t.D6.set i x)
def Tm.Ca:Tm->SR
 |.mk k lo hi nm ar n s op l q vs a b gs ps ks=>
   if ks.all Tm.L9=true then X9 (.mk k lo hi nm ar n s op l q vs a b gs ps ks) ((Tm.mk k lo hi nm ar n s op l q vs a b gs ps ks).kd 0)
   else((ks.map Tm.Ca).getD 0 (.fin Bw)).bind λx=>.ok ((Tm.mk k lo hi nm ar n s op l q vs a b gs ps ks).AR 0 x)
theorem Tm.Gq:t.Ca=if t.D6.all Tm.L9=true then X9 t (t.kd 0)else((t.D6.map Tm.Ca).getD 0 (.fin Bw)).bind λx=>.ok (t.AR 0 x):=by cases t;rw[Tm.Ca];rfl
def AY:Nat->Tm->SR
 |0,_=>.fin Bw
 |n+1,t=>if t.L9=true then .ok t else t.Ca.bind (AY n)
def Tm.O6:Tm->List Tm
 |.mk k lo hi nm ar n s op l q vs a b gs ps ks=>if k=16 then(ks.map Tm.O6).getD 0 []++[.mk k lo hi nm ar n s op l q vs a b gs ps ks]else[]
theorem Tm.jf:t.O6=if t.A8=16 then(t.D6.map Tm.O6).getD 0 []++[t]else[]:=by cases t;rw[Tm.O6];rfl
def Tm.K4:Tm->Tm
 |.mk k lo hi nm ar n s op l q vs a b gs ps ks=>if k=16 then(ks.map Tm.K4).getD 0 Pz else .mk k lo hi nm ar n s op l q vs a b gs ps ks
theorem Tm.mD:t.K4=if t.A8=16 then(t.D6.map Tm.K4).getD 0 Pz else t:=by cases t;rw[Tm.K4];rfl
def V3(t:Ty)(i:Nat):Ty:=if t.A8=8/\i=1 then t else t.kd i
def Bo(A8:Int)(i:Nat):List Tm->Tm->SR
 |[],w=>.ok w
 |c::l,w=>
   if c.b.A8=5 then Bo A8 i l w
   else if c.a.A8≠A8\/c.b.A8≠A8 then .fin Bw
   else(AY 4 (J8 c c.neg (V3 c.a i) (V3 c.b i) w)).bind (Bo A8 i l)
inductive PR where
 |fin (r:GZ)
 |ok (a b:Tm)
def Bn(l:List Tm)(x:Tm):PR :=
 match Bo (if x.A8=8 then 8 else 7) 0 l (x.kd 0)with
 |.fin r=>.fin r
 |.ok a=>match Bo (if x.A8=8 then 8 else 7) 1 l (x.kd 1)with
   |.fin r=>.fin r
   |.ok b=>.ok a b
abbrev ER:=ByteArray×Tm
inductive FR where
 |no
 |fin (r:GZ)
 |ok (l:List ER)
def FR.also(a:FR)(b:List ER->FR):FR :=
 match a with
 |.ok l=>b l
 |r=>r
def FR.pre(l:List ER):FR->FR
 |.ok m=>.ok (l++m)
 |r=>r
def E8.AU:E8->Tm->FR
 |.mk k _ _ nm n s ks,v=>
   if k=1 then .ok []
   else if k=2 then .ok [(nm,v)]
   else if v.A8=16/\v.b.A8=5\/v.K4.A8≠k-1 then .no
   else if k=7\/k=9 then
    match Bn v.O6 v.K4,ks.map E8.AU with
    |.fin r,_=>.fin r
    |.ok a b,[f,g]=>(f a).also λl=>(g b).pre l
    |.ok _ _,_=>.no
   else if (k=3\/k=4)/\v.K4.n≠n\/k=5/\v.K4.s≠s then .no else .ok []
def E8.C1Z(k lo hi:Int)(nm:ByteArray)(n:Int)(s:ByteArray)(ks:List E8)(v:Tm)(h2:k=7\/k=9->ks.length=2):(E8.mk k lo hi nm n s ks).AU v =
 if k=1 then .ok []else if k=2 then .ok [(nm,v)]else if v.A8=16/\v.b.A8=5\/v.K4.A8≠k-1 then .no
 else if k=7\/k=9 then
  match Bn v.O6 v.K4 with
  |.fin r=>.fin r
  |.ok a b=>(((E8.mk k lo hi nm n s ks).kd 0).AU a).also λl=>(((E8.mk k lo hi nm n s ks).kd 1).AU b).pre l
 else if (k=3\/k=4)/\v.K4.n≠n\/k=5/\v.K4.s≠s then .no else .ok []:=by
 rw[E8.AU];by_cases k4:k=7\/k=9
 ·rw[D5 k4,D5 k4]
  match ks,h2 k4 with
  |[a,b],_=>cases Bn v.O6 v.K4<;>simp[E8.kd]
 ·rw[C8 k4,C8 k4]
def E8.Vl(p:E8)(v:Tm)(h2:p.A8=7\/p.A8=9->p.D6.length=2):p.AU v =
 if p.A8=1 then .ok []else if p.A8=2 then .ok [(p.name,v)]else if v.A8=16/\v.b.A8=5\/v.K4.A8≠p.A8-1 then .no
 else if p.A8=7\/p.A8=9 then
  match Bn v.O6 v.K4 with
  |.fin r=>.fin r
  |.ok a b=>((p.kd 0).AU a).also λl=>((p.kd 1).AU b).pre l
 else if (p.A8=3\/p.A8=4)/\v.K4.n≠p.n\/p.A8=5/\v.K4.s≠p.s then .no else .ok []:=by
 cases p with
 |mk k lo hi nm n s ks=>exact E8.C1Z k lo hi nm n s ks v h2
def He(s:ByteArray)(xs:List Int)(v:Tm):SR :=
 match t.Cv s xs v with
 |some u=>.ok u
 |none=>.fin Bw
def qX(f v:Tm):SR :=
 if f.A8=9 then He (f.kd 0) f.name [] v
 else if f.A8≠16\/f.a.A8≠9\/f.b.A8≠9 then .fin Bw
 else .ok (J8 f f.neg (f.a.kd 1) (f.b.kd 1) (.mk 10 0 0 S9 S9 0 S9 0 0 false [] O5 O5 [] [] [f.kd 0,J8 f (!f.neg) (f.b.kd 0) (f.a.kd 0) v]))
def DW:Tm:=if t.name=t.arg then t.kd 0 else .mk 12 0 0 t.name t.arg 0 S9 0 0 false [] t.a t.b [] [] [t.kd 0,t.kd 0]
def DF:Tm:=.mk 9 0 0 t.arg S9 0 S9 0 0 false [] t.a O5 [] [] [DW t]
def YH(k n:Int):Tm:=.mk k 0 0 S9 S9 n S9 0 0 false [] O5 O5 [] [] []
def gH(a b:Tm):SR :=
 if a.A8≠(if t.op=7 then 4 else 2)\/b.A8≠(if t.op=7 then 4 else 2)then .fin Bw
 else if t.op=7 then .ok (YH 3 (if a.s=b.s then 1 else 0))
 else match iE t.op a.n b.n with
  |some n=>.ok (YH (if 5<=t.op then 3 else 2) n)
  |none=>.fin (atR 3 t.lo t.hi)
def M_:List ER->Tm->SR
 |[],x=>.ok x
 | (s,v)::l,x=>(He x s [] v).bind (M_ l)
def FM(t:Tm)(v:Tm):Nat->List E8->SR
 |_,[]=>.fin (atR 4 t.lo t.hi)
 |i,p::ps=>
   match p.AU v with
   |.fin r=>.fin r
   |.no=>FM t v (i+1) ps
   |.ok l=>M_ l (t.kd (i+1))
def QY:SR :=
 if t.A8=10 then qX (t.kd 0) (t.kd 1)
 else if t.A8=11 then He (t.kd 1) t.name t.vars (t.kd 0)
 else if t.A8=12 then He (t.kd 1) t.name t.vars (DF t)
 else if t.A8=13 then(if (t.kd 0).A8≠3 then .fin Bw else .ok (if (t.kd 0).n=1 then t.kd 1 else t.kd 2))
 else if t.A8=15 then gH t (t.kd 0) (t.kd 1)
 else if t.A8=14 then FM t (t.kd 0) 0 t.H8
 else if t.A8=16 then X9 t (t.kd 0)
 else .fin Bw
def Z9(k:Int):Nat:=if k=6\/k=8\/k=10\/k=15 then 2 else if k=11\/k=13\/k=14\/k=16 then 1 else 0
def NT(n:Nat)(ks:List Tm):Option Nat:=(List.range n).find? λi=> !(ks.getD i Pz).L9
def Tm.EW:Tm->SR
 |.mk k lo hi nm ar n s op l q vs a b gs ps ks=>
   match NT (Z9 k) ks with
   |some i=>((ks.map Tm.EW).getD i (.fin Bw)).bind λx=>.ok ((Tm.mk k lo hi nm ar n s op l q vs a b gs ps ks).AR i x)
   |none=>QY (.mk k lo hi nm ar n s op l q vs a b gs ps ks)
theorem Tm.Zl:t.EW=match NT (Z9 t.A8) t.D6 with
 |some i=>((t.D6.map Tm.EW).getD i (.fin Bw)).bind λx=>.ok (t.AR i x)
 |none=>QY t:=by
 cases t;rw[Tm.EW];rfl
end
end Go.Su

/-
 THE CALCULUS: right terms' D6 and types; what casts leave is right, closed, within bounds.
-/
namespace Go.Su
set_option linter.defProp false
variable {t:Tm}
def Tm.aQ(h:t.right=true):1<=t.A8/\t.A8<=16:=by have:=Tm.Z4 h;simp only[Tm.one,Cy,z0q,F5]at this;omega
def Tm.YM(h:t.right=true):(t.D6.length:Int)=R7 t.A8 t.H8.length:=by have:=Tm.Z4 h;simp only[Tm.one,z0q,F5]at this;exact this.1.1.1.1.1.2
def Tm.EF(h:t.right=true)(k:t.A8=6\/t.A8=8\/t.A8=10\/t.A8=11\/t.A8=12\/t.A8=15):t.D6.length=2:=by have:=Tm.YM h;unfold R7 at this;rw[D5 k]at this;omega
def Tm.B_(h:t.right=true)(k:t.A8=9\/t.A8=16):t.D6.length=1:=by have:=Tm.YM h;unfold R7 at this;rw[C8 (by omega),D5 k]at this;omega
def Tm.B0g(h:t.right=true)(k:t.A8=13):t.D6.length=3:=by have:=Tm.YM h;unfold R7 at this;rw[C8 (by omega),C8 (by omega),D5 k]at this;omega
def Tm.A67(h:t.right=true)(k:t.A8=14):t.D6.length=t.H8.length+1:=by have:=Tm.YM h;unfold R7 at this;rw[C8 (by omega),C8 (by omega),C8 (by omega),D5 k]at this;omega
def Tm.Ib(h:t.D6.length=1):t.D6=[t.kd 0]:=by
 match hk:t.D6,h with
 |[a],_=>simp[Tm.kd,hk]
def Tm.A4r(h:t.D6.length=2):t.D6=[t.kd 0,t.kd 1]:=by
 match hk:t.D6,h with
 |[a,b],_=>simp[Tm.kd,hk]
def Tm.BG(h:t.right=true)(hk:t.A8=16):t.a.right=true/\t.b.right=true/\0<=t.label/\t.label<=1048576:=by have o:=Tm.Z4 h;unfold Tm.one Tm.Kv Tm.LW Tm.LX Tm.Mc z8 at o;simp[hk,kA,kB,Q9]at o;exact⟨o.1.1.2,o.1.2,by omega,by omega⟩
def Tm.AX(h:t.right=true){i:Nat}(hi:i<t.D6.length):(t.kd i).right=true:=Tm.M8 h (Tm.U4 hi)
def Ty.mZ{t:Ty}(h:t.right=true){i:Nat}(hi:i<t.D6.length):(t.kd i).right=true:=Ty.M8 h (Ty.U4 hi)
end Go.Su

/-
 THE CALCULUS: a cast of a value comes to a value, or to an end, in so many steps.
-/
namespace Go.Su
set_option linter.unusedSectionVars false
def SR.good(x:SR):Prop:=match x with | .ok _=>True | .fin r=>r.A8≠0
def Stp(t:Tm):Prop:=(t.kd 0).L9=true\/((t.kd 0).L9=false/\(t.kd 0).A8=16/\(t.kd 0).right=true/\((t.kd 0).kd 0).L9=true)
def XB:Nat->Tm->Prop
 |0,_=>False
 |n+1,t=>t.right=true/\(t.L9=true\/(t.L9=false/\t.A8=16/\Stp t/\∀y,t.Ca=.ok y->XB n y))
structure CQ(Tq:Ty->Prop)(Q:Tm->Prop):Prop where
 g:∀k,0<=X3 k->Tq (N9 k)
 ty:∀y,Tq y->y.right=true
 r:∀t,Q t->t.right=true
 kid:∀t,Q t->t.A8=16->Q (t.kd 0)
 cast:∀(c:Tm) q A B w,0<=c.label->c.label<=1048576->Tq A->Tq B->Q w->Q (J8 c q A B w)
variable (c:Tm)(q:Bool)
theorem Vx(A B:Ty)(w:Tm):(J8 c q A B w).L9=(CB A B&&w.L9):=by rw[Tm.FY];simp[J8]
theorem B0Y(A B:Ty)(w:Tm):(J8 c q A B w).D6.all Tm.L9=w.L9:=by simp[J8]
variable {w:Tm}
theorem B1V(A B:Ty)(h:w.L9=true):(J8 c q A B w).Ca=X9 (J8 c q A B w) w:=by rw[Tm.Gq,B0Y,D5 h];rfl
theorem C2r(A B:Ty)(h:w.L9=false):(J8 c q A B w).Ca=w.Ca.bind λy=>.ok (J8 c q A B y):=by rw[Tm.Gq,B0Y,C8 (by rw[h];simp)];rfl
theorem NZ(k:Int):(N9 k).A8=k:=rfl
theorem B71{k:Int}(h5:k≠5)(h6:k≠6):(N9 k).isG=true:=by unfold Ty.isG;simp only[NZ,F5];exact⟨h5,h6,trivial⟩
theorem Ty.C6d{t:Ty}(h:t.right=true)(h5:t.A8≠5)(h6:t.A8≠6)(hg:t≠N9 t.A8):t.A8=7\/t.A8=8\/t.A8=9:=by
 obtain⟨h1,h2,h3,h4,-⟩:=Ty.CS.1 h;have hn:t.n=0:=h4.resolve_left h6;apply Classical.byContradiction;intro hk;apply hg;have hl:t.D6.length=0:=by
  unfold X3 at h1
  repeat' split at h1
  all_goals omega
 refine Ty.ED.2 ⟨rfl,hn,?_⟩;rw[Xw,z7q hl];have:X3 t.A8=0:=by rw[h1,hl];rfl
 rw[this];rfl
theorem B0H(h:w.L9=true)(k:w.A8=16)(l:w.D6.length=1):(w.kd 0).L9=true:=by rw[Tm.FY,C8 (by omega),C8 (by omega),D5 k,z0q,Tm.Ib l]at h;simpa using h.2
variable {n:Nat}{t:Tm}
theorem XB.val(r:t.right=true)(h:t.L9=true):XB (n+1) t:=⟨r,.inl h⟩
theorem Ol(h:t.L9=true):AY (n+1) t=.ok t:=by rw[AY,D5 h]
theorem Me(h:t.L9=false):AY (n+1) t=t.Ca.bind (AY n):=by rw[AY,C8 (by rw[h];simp)]
section
variable {Tq:Ty->Prop}{Q:Tm->Prop}(C:CQ Tq Q)
include C
def Done(Q:Tm->Prop)(x:SR):Prop:=match x with | .ok y=>y.L9=true/\Q y | .fin r=>r.A8≠0
variable {c:Tm}{q:Bool}
theorem B1P{A B:Ty}(h0:0<=c.label)(h1:c.label<=1048576)(hA:Tq A)(hB:Tq B)(hw:Q w)(vw:w.L9=true)(a5:A.A8=5)(b5:B.A8≠5)(b6:B.A8≠6)(bg:B=N9 B.A8):
 Done (λy=>Q y/\w.A8=16/\y=w.kd 0) (X9 (J8 c q A B w) w)/\CB A B=false:=by
 have ra:=C.ty _ hA;have rw':=C.r _ hw;refine⟨?_,?_⟩
 ·unfold X9;rw[C8 (show ¬((J8 c q A B w).a.D6=[]/\(J8 c q A B w).a=(J8 c q A B w).b)from λh=>b5 (by rw[<- show A=B from h.2];exact a5)),D5 (show(J8 c q A B w).a.A8=5 from a5),C8 (show ¬((J8 c q A B w).b.A8=5\/(J8 c q A B w).b.A8=6)from λh=>h.elim b5 b6),C8 (show ¬(J8 c q A B w).b≠N9 (J8 c q A B w).b.A8 from λh=>h bg)];split
  ·show(6:Int)≠0;omega
  ·rename_i hn;have k16:w.A8=16:=Classical.byContradiction λh=>hn (.inl h);split
   ·exact⟨B0H vw k16 (Tm.B_ rw' (.inr k16)),C.kid _ hw k16,k16,rfl⟩
   ·show(2:Int)≠0;omega
 ·unfold CB;rw[C8 b5];simp[a5,Ne.symm b5]
theorem A9B{A B:Ty}{S:Tm->Prop}(S0:S w)(S1:w.A8=16->S (w.kd 0))(S2:S (J8 c q A B w))(S3:w.A8=16->∀G,S (J8 c q G B (w.kd 0)))(S4:B.A8=5->∀G,S (J8 c q G B (J8 c q A G w)))(h0:0<=c.label)(h1:c.label<=1048576)(hA:Tq A)(hB:Tq B)(hw:Q w)(vw:w.L9=true):
 XB 4 (J8 c q A B w)/\Done (λy=>Q y/\S y) (AY 4 (J8 c q A B w)):=by
 have ra:=C.ty _ hA;have rb:=C.ty _ hB;have qx:=C.cast c q A B w h0 h1 hA hB hw;have rx:=C.r _ qx;by_cases hv:(J8 c q A B w).L9=true
 ·exact⟨.val rx hv,by rw[Ol hv];exact⟨hv,qx,S2⟩⟩
 have PN:(J8 c q A B w).L9=false:=by simpa using hv
 have st:=B1V c q A B vw;rw[Vx,vw,Bool.and_true]at hv;have stp:Stp (J8 c q A B w):=.inl vw;have once:Done (λy=>Q y/\S y) (X9 (J8 c q A B w) w)->XB 4 (J8 c q A B w)/\Done (λy=>Q y/\S y) (AY 4 (J8 c q A B w)):=by
  intro hd;rw[Me PN,st];refine⟨⟨rx,.inr ⟨PN,rfl,stp,λy hy=>?_⟩⟩,?_⟩
  ·rw[st]at hy;rw[hy]at hd;exact .val (C.r _ hd.2.1) hd.1
  ·cases hc:X9 (J8 c q A B w) w with
   |fin r=>rw[hc]at hd;exact hd
   |ok y=>rw[hc]at hd;show Done (λy=>Q y/\S y) (AY 3 y);rw[Ol hd.1];exact hd
 by_cases e0:A.D6=[]/\A=B
 ·refine once ?_;unfold X9;rw[D5 (show(J8 c q A B w).a.D6=[]/\(J8 c q A B w).a=(J8 c q A B w).b from e0)];exact⟨vw,hw,S0⟩
 by_cases a5:A.A8=5
 ·by_cases b5:B.A8=5
  ·exact absurd ⟨by rw[Ty.Qv ra a5];rfl,by rw[Ty.Qv ra a5,Ty.Qv rb b5]⟩ e0
  by_cases b6:B.A8=6
  ·refine once ?_;unfold X9;rw[C8 (show ¬((J8 c q A B w).a.D6=[]/\(J8 c q A B w).a=(J8 c q A B w).b)from e0),D5 (show(J8 c q A B w).a.A8=5 from a5),D5 (show((J8 c q A B w).b.A8=5\/(J8 c q A B w).b.A8=6)from .inr b6)];show(6:Int)≠0;omega
  by_cases bg:B=N9 B.A8
  ·refine once ?_;have d:=(B1P C (c:=c) (q:=q) h0 h1 hA hB hw vw a5 b5 b6 bg).1;cases hc:X9 (J8 c q A B w) w with
   |fin r=>rw[hc]at d;exact d
   |ok y=>rw[hc]at d;obtain⟨d1,d2,d3,d4⟩:=d;exact⟨d1,d2,d4 ▸ S1 d3⟩
  have hk:=Ty.C6d rb b5 b6 bg;have hG:Tq (N9 B.A8):=C.g _ (by have:=Ty.Bv rb;omega);have cF:X9 (J8 c q A B w) w=.ok (J8 c q (N9 B.A8) B (J8 c q A (N9 B.A8) w)):=by unfold X9;rw[C8 (show ¬((J8 c q A B w).a.D6=[]/\(J8 c q A B w).a=(J8 c q A B w).b)from e0),D5 (show(J8 c q A B w).a.A8=5 from a5),C8 (show ¬((J8 c q A B w).b.A8=5\/(J8 c q A B w).b.A8=6)from λh=>h.elim b5 b6),D5 (show(J8 c q A B w).b≠N9 (J8 c q A B w).b.A8 from bg)];rfl
  have qi:=C.cast c q A (N9 B.A8) w h0 h1 hA hG hw;have qy:=C.cast c q (N9 B.A8) B _ h0 h1 hG hB qi;obtain⟨dI,aI⟩:=B1P C (c:=c) (q:=q) h0 h1 hA hG hw vw a5 b5 b6 rfl;have vi:(J8 c q A (N9 B.A8) w).L9=false:=by rw[Vx,aI];rfl
  have vy:(J8 c q (N9 B.A8) B (J8 c q A (N9 B.A8) w)).L9=false:=by rw[Vx,vi,Bool.and_false]
  have aY:CB (N9 B.A8) B=true:=by unfold CB;rw[C8 b5];simp[NZ,hk]
  have sI:=B1V c q A (N9 B.A8) vw;have sY:(J8 c q (N9 B.A8) B (J8 c q A (N9 B.A8) w)).Ca=(X9 (J8 c q A (N9 B.A8) w) w).bind λy=>.ok (J8 c q (N9 B.A8) B y):=by rw[C2r c q _ B vi,sI]
  rw[Me PN,st,cF];show XB 4 _/\Done (λy=>Q y/\S y) (AY 3 _);rw[Me vy,sY];have vz:∀z,z.L9=true->(Q z/\w.A8=16/\z=w.kd 0)->(J8 c q (N9 B.A8) B z).L9=true/\Q (J8 c q (N9 B.A8) B z)/\S (J8 c q (N9 B.A8) B z):=λz h hz=>⟨by rw[Vx,aY,h];rfl,C.cast c q _ B z h0 h1 hG hB hz.1,hz.2.2 ▸ S3 hz.2.1 _⟩;refine⟨⟨rx,.inr ⟨PN,rfl,stp,λy hy=>?_⟩⟩,?_⟩
  ·rw[st,cF]at hy;cases hy;refine⟨C.r _ qy,.inr ⟨vy,rfl,.inr ⟨vi,rfl,C.r _ qi,vw⟩,λy hy=>?_⟩⟩;rw[sY]at hy;cases hc:X9 (J8 c q A (N9 B.A8) w) w with
   |fin r=>rw[hc]at hy;cases hy
   |ok z=>rw[hc]at hy dI;cases hy;obtain⟨v1,v2⟩:=vz z dI.1 dI.2;exact .val (C.r _ v2.1) v1
  ·cases hc:X9 (J8 c q A (N9 B.A8) w) w with
   |fin r=>rw[hc]at dI;exact dI
   |ok z=>rw[hc]at dI;obtain⟨v1,v2⟩:=vz z dI.1 dI.2;show Done (λy=>Q y/\S y) (AY 2 (J8 c q (N9 B.A8) B z));rw[Ol v1];exact⟨v1,v2⟩
 ·by_cases b5:B.A8=5
  ·by_cases a6:A.A8=6
   ·refine once ?_;unfold X9;rw[C8 (show ¬((J8 c q A B w).a.D6=[]/\(J8 c q A B w).a=(J8 c q A B w).b)from e0),C8 (show ¬(J8 c q A B w).a.A8=5 from a5),D5 (show(J8 c q A B w).b.A8=5 from b5),D5 (show(J8 c q A B w).a.A8=6 from a6)];show(6:Int)≠0;omega
   ·have ag:A≠N9 A.A8:=by intro h;apply hv;unfold CB;rw[D5 b5];unfold Ty.isG;simp only[F5];exact⟨a5,a6,h⟩
    have hk:=Ty.C6d ra a5 a6 ag;have hG:Tq (N9 A.A8):=C.g _ (by have:=Ty.Bv ra;omega);have qi:=C.cast c q A (N9 A.A8) w h0 h1 hA hG hw;have qy:=C.cast c q (N9 A.A8) B _ h0 h1 hG hB qi;refine once ?_;unfold X9;rw[C8 (show ¬((J8 c q A B w).a.D6=[]/\(J8 c q A B w).a=(J8 c q A B w).b)from e0),C8 (show ¬(J8 c q A B w).a.A8=5 from a5),D5 (show(J8 c q A B w).b.A8=5 from b5),C8 (show ¬(J8 c q A B w).a.A8=6 from a6)];refine⟨?_,qy,S4 b5 _⟩;show(J8 c q (N9 A.A8) B (J8 c q A (N9 A.A8) w)).L9=true;have x1:CB (N9 A.A8) B=true:=by unfold CB;rw[D5 b5];exact B71 a5 a6
    have x2:CB A (N9 A.A8)=true:=by unfold CB;rw[C8 (show ¬(N9 A.A8).A8=5 from a5)];simp[NZ,hk]
    rw[Vx,Vx,x1,x2,vw];rfl
  ·refine once ?_;unfold X9;rw[C8 (show ¬((J8 c q A B w).a.D6=[]/\(J8 c q A B w).a=(J8 c q A B w).b)from e0),C8 (show ¬(J8 c q A B w).a.A8=5 from a5),C8 (show ¬(J8 c q A B w).b.A8=5 from b5)];show(6:Int)≠0;omega
theorem bu{A B:Ty}(h0:0<=c.label)(h1:c.label<=1048576)(hA:Tq A)(hB:Tq B)(hw:Q w)(vw:w.L9=true):
 XB 4 (J8 c q A B w)/\Done Q (AY 4 (J8 c q A B w)):=by
 obtain⟨a,b⟩:=A9B C (c:=c) (q:=q) (S:=λ_=>True) trivial (λ_=>trivial) trivial (λ_ _=>trivial) (λ_ _=>trivial) h0 h1 hA hB hw vw;refine⟨a,?_⟩;cases hs:AY 4 (J8 c q A B w)with
 |fin r=>rw[hs]at b;exact b
 |ok y=>rw[hs]at b;exact⟨b.1,b.2.1⟩
end
end Go.Su

/-
 THE CALCULUS: how many casts stand around parts of values.
-/
namespace Go.Su
set_option linter.unusedSectionVars false
variable (c:Tm)
theorem UE(q:Bool)(A B:Ty)(w:Tm):(J8 c q A B w).O6=w.O6++[J8 c q A B w]/\(J8 c q A B w).K4=w.K4:=by rw[Tm.jf,Tm.mD];exact⟨rfl,rfl⟩
theorem XD{t:Tm}(k:t.A8=16)(l1:t.D6.length=1):t.O6=(t.kd 0).O6++[t]/\t.K4=(t.kd 0).K4:=by rw[Tm.jf,Tm.mD,D5 k,D5 k,Tm.Ib l1];exact⟨rfl,rfl⟩
theorem KH{t:Tm}(k:t.A8≠16):t.O6=[]/\t.K4=t:=by rw[Tm.jf,Tm.mD,C8 k,C8 k];exact⟨rfl,rfl⟩
variable (l:List Tm)
noncomputable def nd:Nat:=(l.filter λc=>decide (c.b.A8≠5)).length
theorem B4m(m:List Tm):nd (l++m)=nd l+nd m:=by simp[nd]
theorem B97:nd [c]=if c.b.A8=5 then 0 else 1:=by unfold nd;by_cases h:c.b.A8=5<;>simp[h]
theorem C3X:nd (c::l)=nd [c]+nd l:=B4m [c] l
theorem C25:nd l<=l.length:=zGq _ _
theorem A8l(t:Tm):t.right=true->t.O6.length+t.K4.size<=t.size/\t.K4.right=true/\t.K4.A8≠16:=by
 induction t using Tm.ind with
 |h t ih=>
   intro rt;by_cases k:t.A8=16
   ·have l1:=Tm.B_ rt (.inr k);obtain⟨c1,c2⟩:=XD k l1;have h0:0<t.D6.length:=by omega
    obtain⟨i1,i2⟩:=ih _ (Tm.U4 h0) (Tm.AX rt h0);have:=Tm.Ec (Tm.U4 h0);rw[c1,c2,zeq];simp only[zaq,zbq];exact⟨by omega,i2⟩
   ·rw[(KH k).1,(KH k).2];exact⟨by simp,rt,k⟩
structure B7j(w y:Tm)(n:Nat):Prop where
 i:y.K4=w.K4
 e:nd y.O6<=nd w.O6+n
 l:y.O6.length<=w.O6.length+2 * n
section
variable {Tq:Ty->Prop}{Q:Tm->Prop}(C:CQ Tq Q)
include C
theorem B50{c:Tm}{q:Bool}{A B:Ty}{w:Tm}(h0:0<=c.label)(h1:c.label<=1048576)(hA:Tq A)(hB:Tq B)(hw:Q w)(vw:w.L9=true):
 XB 4 (J8 c q A B w)/\Done (λy=>Q y/\B7j w y 1) (AY 4 (J8 c q A B w)):=by
 have rw':=C.r _ hw;have one:∀(q:Bool)(A B:Ty)(w:Tm),nd (J8 c q A B w).O6=nd w.O6+(if B.A8=5 then 0 else 1)/\(J8 c q A B w).O6.length=w.O6.length+1:=by intro q A B w;rw[(UE c q A B w).1,B4m,B97,zeq];exact⟨rfl,rfl⟩
 have ki:w.A8=16->nd (w.kd 0).O6<=nd w.O6/\(w.kd 0).O6.length<=w.O6.length/\(w.kd 0).K4=w.K4:=by intro k;obtain⟨c1,c2⟩:=XD k (Tm.B_ rw' (.inr k));rw[c1,c2,B4m,zeq];exact⟨by omega,by omega,rfl⟩
 refine A9B C (S:=λy=>B7j w y 1) ⟨rfl,by omega,by omega⟩ (λk=>?_) ?_ (λk G=>?_) (λb5 G=>?_) h0 h1 hA hB hw vw
 ·obtain⟨a,b,d⟩:=ki k;exact⟨d,by omega,by omega⟩
 ·obtain⟨a,b⟩:=one q A B w;exact⟨(UE c q A B w).2,by rw[a];split<;>omega,by omega⟩
 ·obtain⟨a,b⟩:=one q G B (w.kd 0);obtain⟨x,y,z⟩:=ki k;exact⟨(UE c q G B _).2.trans z,by rw[a];split<;>omega,by omega⟩
 ·obtain⟨a,b⟩:=one q G B (J8 c q A G w);obtain⟨x,y⟩:=one q A G w;refine⟨(UE c q G B _).2.trans (UE c q A G w).2,?_,by omega⟩;rw[a,x,D5 b5];split<;>omega
theorem MN{i:Nat}(hp:∀y,Tq y->(y.A8=8/\i=1\/i<y.D6.length)->Tq (V3 y i)){A8:Int}(la:∀y:Ty,y.right=true->y.A8=A8->i=1/\y.A8=8\/i<y.D6.length):∀(L:List Tm),(∀c∈L,c.right=true/\c.A8=16/\Tq c.a/\Tq c.b)->∀w,Q w->w.L9=true->Done (λy=>Q y/\B7j w y (nd L)) (Bo A8 i L w)
 |[],_,w,hq,hv=>⟨hv,hq,rfl,by omega,by omega⟩
 |c::L,hc,w,hq,hv=>by
   obtain⟨rc,kc,ta,tb⟩:=hc c (z5q ..);obtain⟨ra,rb,l0,l1⟩:=Tm.BG rc kc;have ht:∀c∈L,c.right=true/\c.A8=16/\Tq c.a/\Tq c.b:=λd hd=>hc d (z3q _ hd);have hn1:=C3X c L;rw[B97]at hn1;rw[Bo];by_cases b5:c.b.A8=5
   ·rw[D5 b5];rw[D5 b5]at hn1;have d:=MN hp la L ht w hq hv;rw[show nd (c::L)=nd L by omega];exact d
   rw[C8 b5];rw[C8 b5]at hn1;by_cases hn:c.a.A8≠A8\/c.b.A8≠A8
   ·rw[D5 hn];show(6:Int)≠0;omega
   rw[C8 hn];have ka:c.a.A8=A8:=Classical.byContradiction λh=>hn (.inl h);have kb:c.b.A8=A8:=Classical.byContradiction λh=>hn (.inr h);have la':=la _ ra ka;have lb':=la _ rb kb;obtain⟨st,dn⟩:=B50 C (c:=c) (q:=c.neg) l0 l1 (hp _ ta (la'.imp (λh=>⟨h.2,h.1⟩) id)) (hp _ tb (lb'.imp (λh=>⟨h.2,h.1⟩) id)) hq hv;cases hs:AY 4 (J8 c c.neg (V3 c.a i) (V3 c.b i) w)with
   |fin r=>rw[hs]at dn;exact dn
   |ok y=>
     rw[hs]at dn;obtain⟨d1,d2,d3⟩:=dn;have d:=MN hp la L ht y d2 d1;show Done _ (Bo A8 i L y);cases hf:Bo A8 i L y with
     |fin r=>rw[hf]at d;exact d
     |ok z=>rw[hf]at d;obtain⟨e1,e2,e3⟩:=d;exact⟨e1,e2,e3.i.trans d3.i,by have:=e3.e;have:=d3.e;omega,by have:=e3.l;have:=d3.l;omega⟩
end
structure WP(B:Nat)(v:Tm):Prop where
 e:nd v.O6+v.K4.size<=B
 l:v.O6.length<=3 * B
theorem WP.of{B:Nat}{v:Tm}(r:v.right=true)(h:v.size<=B):WP B v:=by obtain⟨a,-⟩:=A8l v r;have:=C25 v.O6;exact⟨by omega,by omega⟩
theorem WP.part{B:Nat}{v k y:Tm}(h:WP B v)(hk:k∈v.K4.D6)(rk:k.right=true)(g:B7j k y (nd v.O6)):WP B y:=by obtain⟨a,-⟩:=A8l k rk;have hs:=Tm.Ec hk;have:=C25 k.O6;have e:=h.e;have g1:=g.e;have g2:=g.l;refine⟨?_,by omega⟩;rw[g.i];omega
end Go.Su

/-
 TERMS: what a value put for a name, with variables, keeps: a property of every node, rightness, what is free.
-/
namespace Go.Su
set_option linter.defProp false
inductive Tm.each(P:Tm->Prop):Tm->Prop where
 |mk (t:Tm):P t->(∀k∈t.D6,Tm.each P k)->Tm.each P t
def Tm.each.one{P:Tm->Prop}{t:Tm}(h:t.each P):P t:=by cases h;assumption
def Tm.each.kid{P:Tm->Prop}{t k:Tm}(h:t.each P)(hk:k∈t.D6):k.each P:=by cases h with | mk _ _ g=>exact g k hk
def Tm.each.imp{P R:Tm->Prop}(hPR:∀t,P t->R t)(t:Tm):t.each P->t.each R:=by
 induction t using Tm.ind with
 |h t ih=>intro h;exact .mk t (hPR t h.one) λk hk=>ih k hk (h.kid hk)
variable (t:Tm)
def Tm.each.and{P R:Tm->Prop}:t.each P->t.each R->t.each λt=>P t/\R t:=by
 induction t using Tm.ind with
 |h t ih=>intro h g;exact .mk t ⟨h.one,g.one⟩ λk hk=>ih k hk (h.kid hk) (g.kid hk)
def Tm.B1E{b:Nat->List ByteArray}{s:ByteArray}{xs:List Int}{v:Tm}:∀{ks ks':List Tm}{i:Nat},Tm.Eo b i ks s xs v=some ks'->∀(j:Nat) k,ks[j]?=some k->∃k',ks'[j]?=some k'/\(if ((b (i+j)).any λx=>decide (x=s))=true then some k else k.Cv s xs v)=some k'
 |[],ks',i,h,j,k,hk=>by simp at hk
 |k0::ks,ks',i,h,j,k,hk=>by
   rw[Tm.Oh]at h;cases h1:(if ((b i).any λx=>decide (x=s))=true then some k0 else k0.Cv s xs v)with
   |none=>rw[h1]at h;cases h
   |some k1=>
     rw[h1]at h;cases h2:Tm.Eo b (i+1) ks s xs v with
     |none=>rw[h2]at h;cases h
     |some ks2=>
       rw[h2]at h;simp only[znq,z8q,D9]at h;subst h;cases j with
       |zero=>simp only[zcq,D9]at hk;subst hk;exact⟨k1,rfl,h1⟩
       |succ j=>obtain⟨k',g1,g2⟩:=Tm.B1E h2 j k (by simpa using hk);exact⟨k',by simpa using g1,by rwa [show i+(j+1)=i+1+j by omega]⟩
variable (s:ByteArray)(xs:List Int)(v:Tm)
def Tm.pz{G:Tm->Prop}(node:∀t,G t->∀ks,ks.length=t.D6.length->(∀k∈ks,G k)->G (t.V7 ks))(kid:∀t,G t->∀k∈t.D6,G k)(val:∀t,G t->t.A8=1->t.args.length=xs.length->G (v.Fb (xs.zip t.args)))(t:Tm):G t->∀u,t.Cv s xs v=some u->G u:=by
 induction t using Tm.ind with
 |h t ih=>
   intro gt u h;rw[Tm.Nl]at h;by_cases h1:t.A8=1
   ·rw[D5 h1]at h;split at h
    ·split at h
     ·simp only[D9]at h;rw[<- h];exact val t gt h1 (by assumption)
     ·cases h
    ·simp only[D9]at h;rw[<- h];exact gt
   ·rw[C8 h1]at h;cases hp:Tm.Eo t.binds 0 t.D6 s xs v with
    |none=>rw[hp]at h;cases h
    |some ks=>
      rw[hp]at h;simp only[z8q,D9]at h;subst h;refine node t gt ks (Tm.A3L hp) λk' CR=>?_;rcases Tm.B1F hp k' CR with hk | ⟨k,hk,hk2⟩
      ·exact kid t gt k' hk
      ·exact ih k hk (kid t gt k hk) k' hk2
def Tm.B8v{t:Tm}(h:t.right=true):∀y∈t.args,y.right=true:=(Tm.B5m h).2.2
def Tm.TC{t:Tm}(h:t.right=true):EG t.vars=true:=by have o:=Tm.Z4 h;unfold Tm.one Tm.Kv Tm.LW Tm.LX Tm.Mc Tm.Nj Tm.lists at o;simp only[z0q]at o;exact o.2.2.2.2.2.2.1.1
def Tm.A9n(hx:EG xs=true)(hv:v.right=true):t.right=true->∀u,t.Cv s xs v=some u->u.right=true:=by
 refine Tm.pz (G:=λt=>t.right=true) s xs v (λt rt ks hl hk=>?_) (λt rt k hk=>Tm.M8 rt hk) (λt rt k1 hl=>?_) t
 ·rw[Tm.right_eq,Tm.ZX hl,Tm.Z4 rt,y0q,Tm.FT,z6q];exact hk
 ·exact Tm.B8S v hv _ (wB hx (Tm.B8v rt))
def Tm.B9z{P:Tm->Prop}(hP:∀t l ks,P t->ks.length=t.D6.length->P (.mk t.A8 t.lo t.hi t.name t.arg t.n t.s t.op t.label t.neg t.vars (t.a.Az (if t.A8=12 then X8 l t.vars else l)) (t.b.Az (if t.A8=12 then X8 l t.vars else l)) (t.args.map (Ty.Az l)) t.H8 ks))(t:Tm):∀l,t.each P->(t.Fb l).each P:=by
 induction t using Tm.ind with
 |h t ih=>
   intro l h;rw[Tm.WO];refine .mk _ (hP t l _ h.one (Tm.WN ..)) λk hk=>?_;rw[Tm.U6]at hk;obtain⟨j,hj,rfl⟩:=ziq.1 hk;have g:=Tm.cB (X8 l t.vars) l t.D6 j;rw[z1q hj]at g;have BS:j<t.D6.length:=by rw[Tm.WN]at hj;exact hj
   rw[z1q BS,z8q,D9]at g;rw[g];exact ih _ (z9q BS) _ (h.kid (z9q BS))
def Tm.C0g{P:Tm->Prop}(node:∀t,P t->∀ks,ks.length=t.D6.length->P (t.V7 ks))(s:ByteArray)(xs:List Int)(v:Tm)(val:∀l,(v.Fb l).each P)(t:Tm):t.each P->∀u,t.Cv s xs v=some u->u.each P :=Tm.pz (G:=λt=>t.each P) s xs v (λt ht ks hl hk=>.mk _ (node t ht.one ks hl) hk) (λt ht k hk=>ht.kid hk) (λt ht k1 hl=>val _) t
def Tm.B8m{P:Tm->Prop}(node:∀t,P t->∀ks,ks.length=t.D6.length->P (t.V7 ks))(s:ByteArray)(v:Tm)(val:v.each P)(t:Tm):t.each P->∀u,t.Cv s [] v=some u->u.each P :=Tm.pz (G:=λt=>t.each P) s [] v (λt ht ks hl hk=>.mk _ (node t ht.one ks hl) hk) (λt ht k hk=>ht.kid hk) (λt ht k1 hl=>by rw[zSq,Tm.ym];exact val) t
variable {t:Tm}
def Tm.IC:t.free=[]↔∀x,x∉t.fr []:=by
 constructor
 ·intro h x hx;rw[<- Tm.xz,h]at hx;cases hx
 ·intro h;cases hf:t.free with
  |nil=>rfl
  |cons x l=>exact absurd (Tm.xz.1 (show x∈t.free by rw[hf];exact z5q ..)) (h x)
def Tm.C4C(t:Tm):∀(l:Es)(L:List ByteArray)(x:ByteArray),x∈(t.Fb l).fr L->x∈t.fr L:=by
 induction t using Tm.ind with
 |h t ih=>
   intro l L x hx;rcases Tm.DD.1 hx with⟨h1,h2,h3⟩ | ⟨j,k,h1,h2⟩
   ·rw[Tm.WO]at h1 h2 h3;exact Tm.DD.2 (.inl ⟨h1,h2,h3⟩)
   ·have hb:(t.Fb l).binds=t.binds:=by rw[Tm.WO];rfl
    rw[hb]at h2;rw[Tm.WO,Tm.U6,Tm.cB]at h1;cases hk:t.D6[j]? with
    |none=>rw[hk]at h1;cases h1
    |some k0=>rw[hk,z8q,D9]at h1;subst h1;exact Tm.DD.2 (.inr ⟨j,k0,hk,ih k0 (Tm.Nh hk) _ _ x h2⟩)
def Tm.C0C(h:t.free=[])(l:Es):(t.Fb l).free=[] :=Tm.IC.2 λx hx=>Tm.IC.1 h x (Tm.C4C t l [] x hx)
def Tm.B61(t:Tm)(s:ByteArray)(xs:List Int)(v:Tm)(hv:v.free=[]):t.right=true->∀(u:Tm)(L:List ByteArray),s∉L->t.Cv s xs v=some u->∀x,x∈u.fr L->x∈t.fr L/\x≠s:=by
 induction t using Tm.ind with
 |h t ih=>
   intro rt u L hL h x hx;rw[Tm.Nl]at h;by_cases h1:t.A8=1
   ·rw[D5 h1]at h;by_cases h2:t.name=s
    ·rw[D5 h2]at h;split at h
     ·simp only[D9]at h;subst h;exact absurd hx (Tm.V_ (Tm.C0C hv _) L x)
     ·cases h
    ·rw[C8 h2]at h;simp only[D9]at h;subst h;refine⟨hx,?_⟩;rcases Tm.DD.1 hx with⟨-,h5,-⟩ | ⟨j,k,h5,h6⟩
     ·rw[h5];exact h2
     ·rw[Tm.C50 rt h1]at h5;simp at h5
   ·rw[C8 h1]at h;cases hp:Tm.Eo t.binds 0 t.D6 s xs v with
    |none=>rw[hp]at h;cases h
    |some ks=>
      rw[hp]at h;simp only[z8q,D9]at h;subst h;have Bl:=Tm.A3L hp;rcases Tm.DD.1 hx with⟨h5,-,-⟩ | ⟨j,k',CR,WK⟩
      ·exact absurd h5 h1
      ·rw[Tm.FT]at CR;rw[Tm.wK]at WK;have hj:j<t.D6.length:=by rw[<- Bl];exact(zjq.1 CR).1
       have hk:t.D6[j]?=some t.D6[j]:=z1q hj;obtain⟨k2,g1,g2⟩:=Tm.B1E hp j _ hk;rw[CR]at g1;simp only[D9]at g1;subst g1;rw[zFq]at g2;by_cases hb:((t.binds j).any λx=>decide (x=s))=true
       ·rw[D5 hb]at g2;simp only[D9]at g2;subst g2;refine⟨Tm.DD.2 (.inr ⟨j,_,hk,WK⟩),?_⟩;rintro rfl;exact Tm.A81 _ _ _ WK (z2q.2 (.inr (sU.1 hb)))
       ·rw[C8 hb]at g2;obtain⟨a,b⟩:=ih _ (Tm.Nh hk) (Tm.M8 rt (Tm.Nh hk)) k' (L++t.binds j) (λhy=>(z2q.1 hy).elim hL λhy=>hb (sU.2 hy)) g2 x WK;exact⟨Tm.DD.2 (.inr ⟨j,_,hk,a⟩),b⟩
variable {j:Nat}
def Tm.A3B{k:Tm}(hk:t.D6[j]?=some k)(h:t.free=[]):∀x,x∈k.fr []->x∈t.binds j:=by intro x hx;apply Classical.byContradiction;intro hb;exact Tm.IC.1 h x (Tm.DD.2 (.inr ⟨j,k,hk,(Tm.vL k ([]++t.binds j) [] x (by simp)).2 ⟨hx,by simpa using hb⟩⟩))
def Tm.B75{k:Tm}(hk:t.D6[j]?=some k)(h:t.free=[])(hb:t.binds j=[]):k.free=[] :=Tm.IC.2 λx hx=>by have:=Tm.A3B hk h x hx;rw[hb]at this;cases this
def Tm.Ng(h:j<t.D6.length):t.D6[j]?=some (t.kd j):=by rw[z1q h,Tm.UV h]
end Go.Su

/-
 THE CALCULUS: what terms that are run keep: right, closed, within bounds in every node; a step keeps it; how it ends.
-/
namespace Go.Su
set_option linter.defProp false
variable (t:Tm)
def Own:Prop:=t.name.size+t.arg.size+t.s.size+t.vars.length+(t.H8.map E8.Q3).sum+t.D6.length<=1048576
def Tyb:Prop:=t.a.size<=20000/\t.b.size<=20000/\(t.args.map Ty.size).sum<=20000
def OT:Prop:=Own t/\Tyb t
structure QB(t:Tm):Prop where
 r:t.right=true
 e:t.each OT
structure QO(t:Tm):Prop where
 r:t.right=true
 e:t.each Own
 f:t.free=[]
structure QT(t:Tm):Prop extends QB t where
 f:t.free=[]
structure TQ(y:Ty):Prop where
 r:y.right=true
 z:y.size<=20000
noncomputable def Tm.YQ:Tm->Nat
 |.mk _ _ _ _ _ _ _ _ _ _ _ a b ys _ ks=>a.size+b.size+(ys.map Ty.size).sum+(ks.map Tm.YQ).sum
theorem Tm.B5n:t.YQ=t.a.size+t.b.size+(t.args.map Ty.size).sum+(t.D6.map Tm.YQ).sum:=by cases t;rw[Tm.YQ];rfl
def Own.Q3:t.Q3<=1048576->t.each Own:=by
 induction t using Tm.ind with
 |h t ih=>intro h;have e:=t.BQ;have l:=vV (l:=t.D6) Tm.ZW;exact .mk t (by unfold Own;omega) λk hk=>ih k hk (by have:=Tm.mH hk;omega)
def Tyb.YQ:t.YQ<=20000->t.each Tyb:=by
 induction t using Tm.ind with
 |h t ih=>intro h;have e:=t.B5n;exact .mk t (by unfold Tyb;omega) λk hk=>ih k hk (by have:=JN (f:=Tm.YQ) hk;omega)
variable {t:Tm}
def QO.qt(h:QO t)(hz:t.YQ<=20000):QT t:=⟨⟨h.r,Tm.each.and t h.e (Tyb.YQ t hz)⟩,h.f⟩
def QT.qo(h:QT t):QO t:=⟨h.r,Tm.each.imp (λ_ h=>h.1) t h.e,h.f⟩
def QB.kid{k:Tm}(h:QB t)(hk:k∈t.D6):QB k:=⟨Tm.M8 h.r hk,h.e.kid hk⟩
variable {i:Nat}
def QT.kid(h:QT t)(hi:i<t.D6.length)(hb:t.binds i=[]):QT (t.kd i) :=⟨h.toQB.kid (Tm.U4 hi),Tm.B75 (Tm.Ng hi) h.f hb⟩
variable (t:Tm)
def QB.fit:QB t->t.fit:=by
 induction t using Tm.ind with
 |h t ih=>
   intro h;obtain⟨ho,ha,hb,hy⟩:=h.e.one;unfold Own at ho;have hv:∀y:Ty,y.size<=20000->y.thin=true/\y.CL<=J9:=λy hz=>⟨Ty.FE (by unfold J9;omega),Nat.le_trans (Ty.aW _) (by unfold J9;omega)⟩
   have ys:∀y∈t.args,y.size<=20000:=λy hm=>by have:=JN (f:=Ty.size) hm;omega
   have yl:=vV (l:=t.args) Ty.Ed;have pl:=vV (l:=t.H8) E8.ZW;refine .mk t ⟨by omega,by omega,by omega,by unfold J9;omega,(hv _ ha).1,(hv _ hb).1,(hv _ ha).2,(hv _ hb).2,by unfold J9;omega,λy hm=>(hv y (ys y hm)).1,λy hm=>(hv y (ys y hm)).2,by unfold J9;omega,λp hp=>E8.kR ?_,by unfold J9;omega⟩ λk hk=>ih k hk (h.kid hk);have:=JN (f:=E8.Q3) hp;omega
variable {s:ByteArray}
def B1u(h:Dt s=true):s.size<=32:=by unfold Dt at h;simp only[z0q,F5]at h;exact h.1.1.1.2
def A9b{b:Bool}(h:Ap b s=true):s.size<=32:=by
 unfold Ap at h;split at h
 ·exact B1u h
 ·rw[F5]at h;rw[h];decide
variable {t:Tm}
def Tm.A6E(h:t.right=true):t.name.size<=32/\t.arg.size<=32/\t.s.size<=200/\(t.D6.length<2->t.vars.length=0/\t.H8.length=0):=by
 have o:=Tm.Z4 h;have l:=Tm.YM h;have k:=Tm.aQ h;unfold Tm.one Tm.Kv Tm.LW Tm.LX Tm.Mc Tm.Nj at o;simp only[z0q,zHq,F5]at o;refine⟨A9b o.1.1.1.1.2,A9b o.1.1.1.2,o.2.2.1.1.2,λhl=>?_⟩;obtain⟨⟨⟨h1,h2⟩,h3⟩,h4⟩:=o.2.2.2.2.2;unfold U9 U8 at *;unfold R7 at l;simp only[F5]at h1 h2 h3;have ko:=o.1.1.1.1.1.1;unfold Cy at ko;simp only[z0q,zHq,zwq,F5,Q8]at ko;refine⟨h1.resolve_left λhk=>?_,h3.resolve_left λhk=>?_⟩
 ·rw[D5 (by omega)]at l;omega
 ·rw[C8 (by omega),C8 (by omega),C8 (by omega),D5 hk]at l;have:=ko.2;omega
def C8Q(m a z b n H C:Nat)(h1:2*m+H<=C*z)(h2:2*a+H*n<=C*b):2*(m+a)+H*(n+1)<=C*(z+b):=by rw[zVq,zVq,zVq,Nat.mul_one];omega
def QB.C23(t:Tm):QB t->2 * t.Q3+1048576<=1169116 * t.size:=by
 induction t using Tm.ind with
 |h t ih=>
   intro h;obtain⟨ho,ha,hb,hy⟩:=h.e.one;unfold Own at ho;obtain⟨h1,h2,h3,h4⟩:=Tm.A6E h.r;have e:=t.BQ;have z:=t.size_eq;have key:∀ks:List Tm,(∀k∈ks,2 * k.Q3+1048576<=1169116 * k.size)->2 * (ks.map Tm.Q3).sum+1048576 * ks.length<=1169116 * (ks.map Tm.size).sum:=by
    intro ks;induction ks with
    |nil=>intro _;simp
    |cons k ks ihk=>intro hk;have h1:=hk k (z5q ..);have h2:=ihk λx hx=>hk x (z3q _ hx);simp only[zgq,zuq,zaq];exact C8Q _ _ _ _ _ _ _ h1 h2
   have hk:=key t.D6 λk hk=>ih k hk (h.kid hk);by_cases hl:t.D6.length<2
   ·obtain⟨v0,p0⟩:=h4 hl;have hp:t.H8=[]:=z7q p0;rw[hp]at e;simp only[zCq,zWq]at e;omega
   ·omega
def QB.Q3(h:QB t)(hz:t.size<=1200):2 * t.Q3<=1402939200:=by have:=QB.C23 t h;omega
def Tm.B9d(h:t.right=true)(k:t.A8=16):t.Q3=1+t.a.size+t.b.size+(t.kd 0).Q3:=by
 have o:=Tm.Z4 h;unfold Tm.one Tm.Kv Tm.LW Tm.LX Tm.Mc Tm.Nj Ap at o;simp[k,U2,Y7,kS,U9,V5,U8]at o;have e:=t.BQ;rw[Tm.Ib (Tm.B_ h (.inr k))]at e;have n0:S9.size=0:=rfl;have hn:t.name=S9:=o.1.1.1.1.2;have ha:t.arg=S9:=o.1.1.1.2;have hs:t.s=S9:=o.2.2.1.1.1;have hv:t.vars=[]:=by have:=o.2.2.2.2.2.1.1.1;exact this
 have hy:t.args=[]:=by have:=o.2.2.2.2.2.1.1.2;exact this
 have hp:t.H8=[]:=by have:=o.2.2.2.2.2.1.2;exact this
 rw[hn,ha,hs,n0,hv,hy,hp]at e;simp only[zbq,zCq,zWq,zgq,zuq]at e;omega
def QB.B7t(t:Tm):QB t->2 * t.Q3<=80002 * t.O6.length+1169116 * t.K4.size:=by
 induction t using Tm.ind with
 |h t ih=>
   intro h;by_cases k:t.A8=16
   ·have l1:=Tm.B_ h.r (.inr k);obtain⟨c1,c2⟩:=XD k l1;have m:=Tm.U4 (show 0<t.D6.length by omega);have:=ih _ m (h.kid m);obtain⟨ho,ha,hb,hy⟩:=h.e.one;rw[Tm.B9d h.r k,c1,c2,zeq,zaq,zbq];omega
   ·have:=QB.C23 t h;rw[(KH k).1,(KH k).2];simp only[zbq];omega
def QB.B3h(h:QB t)(hb:WP 1200 t):2 * t.Q3<=1700000000:=by have:=QB.B7t t h;have:=hb.e;have:=hb.l;omega
variable {c:Tm}{q:Bool}{w:Tm}
theorem aA{A B:Ty}(h0:0<=c.label)(h1:c.label<=1048576)(hA:A.right=true)(hB:B.right=true)(hw:w.right=true):(J8 c q A B w).right=true:=by rw[Tm.right_eq,z0q];refine⟨?_,by simp[J8,hw]⟩;unfold Tm.one Tm.Kv Tm.LW Tm.LX Tm.Mc Tm.Nj Tm.lists Ap z8 J8;simp[Cy,R7,U2,Y7,kA,kB,kN,kS,Bi,BU,Q9,U9,V5,U8,hA,hB,h0,h1,S9];rfl
def B06{P:Tm->Prop}{A B:Ty}(h:P (J8 c q A B w))(hw:w.each P):(J8 c q A B w).each P:=.mk _ h λk hk=>by
 have:k=w:=by simpa[J8]using hk
 rw[this];exact hw
def B4p(c:Tm)(q:Bool)(A B:Ty)(w:Tm):Own (J8 c q A B w):=by
 unfold Own J8;simp only[Tm.DU,Tm.Jc,Tm.Oj,Tm.JR,Tm.Gu,Tm.U6,zbq,zCq,zWq,zaq]
 decide
def A11{A B:Ty}(h:w.free=[]):(J8 c q A B w).free=[]:=Tm.IC.2 λx hx=>by
 rcases Tm.DD.1 hx with⟨h1,-,-⟩ | ⟨j,k,h1,h2⟩
 ·cases h1
 ·cases j with
  |zero=>simp only[J8,Tm.U6,zcq,D9]at h1;subst h1;exact Tm.V_ h _ x h2
  |succ j=>simp[J8]at h1
def QT.cast{A B:Ty}(h0:0<=c.label)(h1:c.label<=1048576)(hA:TQ A)(hB:TQ B)(hw:QT w):QT (J8 c q A B w) :=⟨⟨aA h0 h1 hA.r hB.r hw.r,B06 ⟨B4p ..,hA.z,hB.z,by simp[J8]⟩ hw.e⟩,A11 hw.f⟩
def TQ.ground{k:Int}(h:0<=X3 k):TQ (N9 k):=⟨VI h,by
 rw[Ty.size_eq,Xw];have:(X3 k).toNat<=2:=by unfold X3;repeat' split;all_goals omega
 have d:XG.size=1:=by rw[Ty.size_eq];rfl
 rw[List.map_replicate,List.sum_replicate_nat,d];omega⟩
def TQ.part{y:Ty}(h:TQ y)(hl:y.A8=8/\i=1\/i<y.D6.length):TQ (V3 y i):=by
 unfold V3;split
 ·exact h
 ·rename_i hn;have hi:i<y.D6.length:=hl.resolve_left hn;exact⟨Ty.mZ h.r hi,by have:=Ty.Ec (Ty.U4 hi);have:=h.z;omega⟩
def Tm.Nt(h:t.A8≠9)(h1:¬(t.A8=11/\i=1))(h2:t.A8≠12)(h3:¬(t.A8=14/\0<i)):t.binds i=[]:=by unfold Tm.binds;rw[C8 (by omega),C8 h2,C8 h3]
def QT.types(h:QT t)(k:t.A8=16):TQ t.a/\TQ t.b:=by obtain⟨ra,rb,-⟩:=Tm.BG h.r k;exact⟨⟨ra,h.e.one.2.1⟩,⟨rb,h.e.one.2.2.1⟩⟩
end Go.Su

/-
 RUNS ON CLOSED DATA, by rewriting: what the data's operations make of data that are written out.
-/
namespace Go.Su
set_option linter.defProp false
theorem C5Z{α : Type}{c c':Prop}[d:Decidable c](h:c=c')(x y : α):(if c then x else y)=@ite α c' (h ▸ d) x y:=by subst h;rfl
theorem C17(j:Nat)(cs:List DV):A7 j (.agg cs)=cs.getD j .undef:=rfl
theorem B70(n:Nat)(cs:List DV):E5 n (.agg cs)=(cs.length==n):=rfl
theorem C3p(a:Array UInt8):(ByteArray.mk a).size=a.size:=rfl
def C2K(a b:Array UInt8):((ByteArray.mk a)=ByteArray.mk b)=(a.toList=b.toList):=by
 apply propext;constructor
 ·intro h;cases h;rfl
 ·intro h;rw[Array.ext' h]
def B9T(a b:Array UInt8):DK (.str ⟨a⟩) (.str ⟨b⟩)=decide (a.toList=b.toList):=by simp only[DK];rw[nk];congr 1;exact C2K a b
variable (k:IntKind)
theorem B9U(k':IntKind)(a b:Int):DK (.int k a) (.int k' b)=decide (a=b):=by simp only[DK];rfl
variable (sz:Nat)(ds:List DV)
def C5l(es:List DV):AP sz (.list sz ds) (.list sz es)=if ds.length+es.length<=4294967296 then some (.list sz (ds++es))else none:=by simp[AP,J9]
theorem C5r(i:Nat)(cs:List DV):K5 i (.I4 cs)=cs[i]?:=rfl
theorem C62(m:Nat):bnd m none=some m:=rfl
theorem C63(m:Nat)(k:IntKind)(n:Int):bnd m (some (.int k n))=if 0<=n then some n.toNat else none:=rfl
def C1f(lo hi:Option DV):Cz sz (.list sz ds) lo hi=ob (bnd ds.length hi) λh=>ob (bnd 0 lo) λl=>if l<=h/\h<=ds.length then some (.list sz ((ds.take h).drop l))else none:=by simp[Cz]
variable (d:DV)
theorem B9x(lo:Option DV)(k k':IntKind)(h m:Int):Yq sz d lo (.int k h) (.int k' m)=if h=m then Cz sz d lo (some (.int k h))else none:=rfl
variable (ks:List LK)
theorem C5m(xs ys:List DV):jk ks (.agg xs) (.agg ys)=Eg ks xs ys:=rfl
theorem C5q:Eg [] [] []=some true:=rfl
theorem C5p(k:LK)(ks:List LK)(x y:DV)(xs ys:List DV):Eg (k::ks) (x::xs) (y::ys)=ob (A18 k x y) λb=>bif b then Eg ks xs ys else some false:=by
 simp only[Eg]
 congr 1;funext b;cases b<;>rfl
theorem C5o(a b:Int):A18 .int (.int k a) (.int k b)=some (decide (a=b)):=by simp only[A18,H5];rfl
theorem C5n(a b:Bool):A18 .bool (.bool a) (.bool b)=some (a==b):=rfl
theorem C3u(n:Int):R8 .neg (.int k n)=some (.int k (k.wrap (0-n))):=rfl
variable (k:DV)
theorem C55:AQ [] k=none:=rfl
theorem C54(e:DV×DV)(es:List (DV×DV))(k:DV):AQ (e::es) k=bif DK k e.1 then some e.2 else AQ es k:=by simp only[AQ,List.find?_cons];cases DK k e.1<;>rfl
theorem C57(v:DV):BJ [] k v=[(k,v)]:=rfl
theorem C56(e:DV×DV)(es:List (DV×DV))(k v:DV):BJ (e::es) k v=bif DK k e.1 then(e.1,v)::es else e::BJ es k v:=by simp only[BJ];cases DK k e.1<;>rfl
variable (sg:List H7)
theorem C0a(c:DV×H6):oneCell sg [c]=V6 sg c:=rfl
theorem C6F(d:DV):V6 sg (d,.val)=some d:=rfl
theorem C6D(d:DV):V6 sg (d,.full)=some d:=rfl
theorem C6E(d:DV):V6 sg (d,.own)=some d:=rfl
theorem C6C(d:DV)(i sz off len:Nat):V6 sg (d,.arr i sz off len)=ob (CZ sg i) λa=>og (a.1==sz) (if off+len<=a.2.length then some (.list sz ((a.2.drop off).take len))else none):=rfl
theorem B8u:C2b (some d)=some d:=rfl
variable (k:IntKind)
def C7Z:F7 sz (.list sz ds) (.int k 0)=ds[0]?:=by simp[F7]
def C70:F7 sz (.list sz ds) (.int k 1)=ds[1]?:=by simp[F7]
def C71:F7 sz (.list sz ds) (.int k 2)=ds[2]?:=by simp[F7]
def C72:F7 sz (.list sz ds) (.int k 3)=ds[3]?:=by simp[F7]
def C73:F7 sz (.list sz ds) (.int k 4)=ds[4]?:=by simp[F7]
def C74:F7 sz (.list sz ds) (.int k 5)=ds[5]?:=by simp[F7]
def C75:F7 sz (.list sz ds) (.int k 6)=ds[6]?:=by simp[F7]
def C76:F7 sz (.list sz ds) (.int k 7)=ds[7]?:=by simp[F7]
def C77:F7 sz (.list sz ds) (.int k 8)=ds[8]?:=by simp[F7]
def C78:F7 sz (.list sz ds) (.int k 9)=ds[9]?:=by simp[F7]
def C65:F7 sz (.list sz ds) (.int k 10)=ds[10]?:=by simp[F7]
def C66:F7 sz (.list sz ds) (.int k 11)=ds[11]?:=by simp[F7]
def C67:F7 sz (.list sz ds) (.int k 12)=ds[12]?:=by simp[F7]
def C68:F7 sz (.list sz ds) (.int k 13)=ds[13]?:=by simp[F7]
def C69:F7 sz (.list sz ds) (.int k 14)=ds[14]?:=by simp[F7]
def C7a:F7 sz (.list sz ds) (.int k 15)=ds[15]?:=by simp[F7]
variable (a:Array UInt8)
def C79(k:IntKind):Af (.str ⟨a⟩) (.int k 0)=(a.toList[0]?).map λb=>.int .u8 b.toNat:=by simp[Af]
def C8a(k:IntKind):Af (.str ⟨a⟩) (.int k 1)=(a.toList[1]?).map λb=>.int .u8 b.toNat:=by simp[Af]
def C8b(k:IntKind):Af (.str ⟨a⟩) (.int k 2)=(a.toList[2]?).map λb=>.int .u8 b.toNat:=by simp[Af]
def C8c(k:IntKind):Af (.str ⟨a⟩) (.int k 3)=(a.toList[3]?).map λb=>.int .u8 b.toNat:=by simp[Af]
def C8d(k:IntKind):Af (.str ⟨a⟩) (.int k 4)=(a.toList[4]?).map λb=>.int .u8 b.toNat:=by simp[Af]
def C8e(k:IntKind):Af (.str ⟨a⟩) (.int k 5)=(a.toList[5]?).map λb=>.int .u8 b.toNat:=by simp[Af]
def C8f(k:IntKind):Af (.str ⟨a⟩) (.int k 6)=(a.toList[6]?).map λb=>.int .u8 b.toNat:=by simp[Af]
def C8g(k:IntKind):Af (.str ⟨a⟩) (.int k 7)=(a.toList[7]?).map λb=>.int .u8 b.toNat:=by simp[Af]
end Go.Su

/-
 More rewriting rules for closed calls: none of them is by `rfl` alone (else the congruence rules fail and the lambdas are entered).
-/
namespace Go.Su
set_option linter.defProp false
def C2z(off len:Nat)(k:IntKind)(n:Int):Cf off len (.int k n)=if 0<=n/\n<len then some (off+n.toNat)else none:=by first | (simp only[Cf];done) | (simp only[Cf];rfl)
variable (sg:List H7)(i:Nat)
def C4U:Q7 sg i=(match sg[i]? with | some (.box cs)=>some cs | _=>none):=by first | (simp only[Q7];done) | (simp only[Q7];rfl)
def C4T:CZ sg i=(match sg[i]? with | some (.arr sz ds)=>some (sz,ds) | _=>none):=by first | (simp only[CZ];done) | (simp only[CZ];rfl)
def C4V:X0 sg i=(match sg[i]? with | some (.map ks es)=>some (ks,es) | _=>none):=by first | (simp only[X0];done) | (simp only[X0];rfl)
def C4W:NB sg i=(match sg[i]? with | some (.opn sz pre ds)=>some (sz,pre,ds) | _=>none):=by first | (simp only[NB];done) | (simp only[NB];rfl)
def C4X(n:Nat):VJ sg i n=(match sg[i]? with | some (.BF n' sz ds)=>if n'=n then some (sz,ds)else none | _=>none):=by first | (simp only[VJ];done) | (simp only[VJ];rfl)
variable (cs:List (DV×H6))(o:Nat)
def C0I:Y5 cs o=(match cs[o]? with | some (d,.val)=>some d | some (d,.full)=>some d | some (d,.own)=>some d | some (d,.FZ)=>some d | _=>none):=by first | (simp only[Y5];done) | (simp only[Y5];rfl)
def C0K:Ld cs o=(match cs[o]? with | some (d,.full)=>some d | some (d,.own)=>some d | _=>none):=by first | (simp only[Ld];done) | (simp only[Ld];rfl)
def C0J:Vy cs o=(match cs[o]? with | some (_,.map i)=>some i | _=>none):=by first | (simp only[Vy];done) | (simp only[Vy];rfl)
def C0L:tC cs o=(match cs[o]? with | some (_,.ptr i 0)=>some i | _=>none):=by first | (simp only[tC];done) | (simp only[tC];rfl)
variable (sz:Nat)
def C0M:tF cs o sz=(match cs[o]? with | some (_,.BF i n sz' len)=>if sz'=sz then some (i,n,len)else none | _=>none):=by first | (simp only[tF];done) | (simp only[tF];rfl)
def C40(off:Nat)(cs:List (DV×H6))(sz:Nat):iR sg i off cs sz=(match cs[off]? with
 |some (_,.BF j n sz' len)=>if sz'=sz then some (sg,j,n,len)else none
 |some (.list sz' [],.full)=>if sz'=sz/\0<sz then some (sg.set i (.box (cs.set off (.undef,.BF sg.length 1 sz 0)))++[.BF 1 sz []],sg.length,1,0)else none
 |_=>none):=by first | (simp only[iR];done) | (simp only[iR];rfl)
theorem C6V(n:Nat):B0F n=some (.int .i64 n):=by cases n<;>simp only[B0F]<;>rfl
def C0O(cs:List (DV×H6)):Dj o 0 cs=some []:=by first | (simp only[Dj];done) | (simp only[Dj];rfl)
def C0P(n:Nat)(cs:List (DV×H6)):Dj o (n+1) cs=ob (Y5 cs o) λd=>ob (Dj (o+1) n cs) λds=>some (d::ds):=by first | (simp only[Dj];done) | (simp only[Dj];rfl)
def B5o:X6 sg []=some []:=by first | (simp only[X6];done) | (simp only[X6];rfl)
def B5p(c:DV×H6)(cs:List (DV×H6)):X6 sg (c::cs)=ob (V6 sg c) λd=>ob (X6 sg cs) λds=>some (d::ds):=by first | (simp only[X6];done) | (simp only[X6];rfl)
def C0D:Ce []=some []:=by first | (simp only[Ce];done) | (simp only[Ce];rfl)
variable (d:DV)
def C0G(cs:List (DV×H6)):Ce ((d,.val)::cs)=ob (Ce cs) λds=>some (d::ds):=by first | (simp only[Ce];done) | (simp only[Ce];rfl)
def C0E(cs:List (DV×H6)):Ce ((d,.full)::cs)=ob (Ce cs) λds=>some (d::ds):=by first | (simp only[Ce];done) | (simp only[Ce];rfl)
def C0F(cs:List (DV×H6)):Ce ((d,.own)::cs)=ob (Ce cs) λds=>some (d::ds):=by first | (simp only[Ce];done) | (simp only[Ce];rfl)
def C6U(sz':Nat)(d:DV):A6X sz (.P_ sz' d)=if sz'=sz then some d else none:=by first | (simp only[A6X];done) | (simp only[A6X];rfl)
variable (k:IntKind)(n:Int)
def C6T:A9X (.int k n)=some n.toNat:=by first | (simp only[A9X];done) | (simp only[A9X];rfl)
def C6R(k':IntKind)(a b:Int):jm (.int k a) (.int k' b)=if k=k' then some (.int k (if b>a then b else a))else none:=by first | (simp only[jm];done) | (simp only[jm];rfl)
def C6S(k':IntKind)(a b:Int):jo (.int k a) (.int k' b)=if k=k' then some (.int k (if b<a then b else a))else none:=by first | (simp only[jo];done) | (simp only[jo];rfl)
variable (s:ByteArray)
def C4M:ES (.str s)=some (.int .i64 s.size):=by first | (simp only[ES];done) | (simp only[ES];rfl)
def C4L(k':IntKind)(n:Int):XF k (.int k' n)=some (.int k (k.wrap n)):=by first | (simp only[XF];done) | (simp only[XF];rfl)
variable (a:Nat)
def C0N(b c:List DV)(idx:Nat)(e:DV):Po (a,b,c) idx e=if b.length<=idx/\idx-b.length<c.length then some (.opn a b (c.set (idx-b.length) e))else none:=by first | (simp only[Po];done) | (simp only[Po];rfl)
def C0Q(off:Nat)(cs:List DV)(xs:List (DV×H6)):Zg sz off (.agg cs) xs=if xs.all (λc=>M6 c.2&&M7 c.1)=true/\cs.length=sz/\off+xs.length<=sz then some (.agg (Ic cs off (xs.map (·.1))))else none:=by first | (simp only[Zg];done) | (simp only[Zg];rfl)
def C4F:J7 (.int k n)=true:=by first | (simp only[J7];done) | (simp only[J7];rfl)
variable (b:Bool)
def C4E:J7 (.bool b)=true:=by first | (simp only[J7];done) | (simp only[J7];rfl)
def C4J:J7 (.str s)=true:=by first | (simp only[J7];done) | (simp only[J7];rfl)
variable (n:Nat)(l:List DV)
def C4G:J7 (.list n l)=true:=by first | (simp only[J7];done) | (simp only[J7];rfl)
def C4H:J7 .LY=true:=by first | (simp only[J7];done) | (simp only[J7];rfl)
def C4I(d:DV):J7 (.P_ n d)=true:=by first | (simp only[J7];done) | (simp only[J7];rfl)
def C4O(n:Int):M7 (.int k n)=true:=by first | (simp only[M7];done) | (simp only[M7];rfl)
def C4N:M7 (.bool b)=true:=by first | (simp only[M7];done) | (simp only[M7];rfl)
def C4S:M7 (.str s)=true:=by first | (simp only[M7];done) | (simp only[M7];rfl)
def C4P:M7 (.list n l)=true:=by first | (simp only[M7];done) | (simp only[M7];rfl)
def C4Q:M7 .LY=true:=by first | (simp only[M7];done) | (simp only[M7];rfl)
def C4R(d:DV):M7 (.P_ n d)=true:=by first | (simp only[M7];done) | (simp only[M7];rfl)
def C4K(b:Nat)(ds es:List DV):XE sz (.list a ds) (.list b es)=if (a=sz/\b=sz)/\ds.length+es.length<=J9/\0<es.length then some (ds,es)else none:=by first | (simp only[XE];done) | (simp only[XE];rfl)
def C6Q(a b:Bool):A17 (.bool a) (.bool b)=some (a==b):=by first | (simp only[A17];done) | (simp only[A17];rfl)
def B8T(b c:List DV)(sz len:Nat):Kh (a,b,c) sz len=if a=sz/\b.length+c.length=len/\0<len then some (.list sz (b++c))else none:=by first | (simp only[Kh];done) | (simp only[Kh];rfl)
def C0H:iW cs o=(match cs[o]? with | some (_,.arr i sz 0 len)=>some (i,sz,len) | _=>none):=by first | (simp only[iW];done) | (simp only[iW];rfl)
def C2A:XI (d,.FZ) (d,.FZ)=some true:=by simp only[XI,bY]
def C2B:XI (.LY,.val) (.LY,.FZ)=some true:=by simp only[XI,bY]
def C2C(d:DV):XI (.P_ n d,.val) (.LY,.FZ)=some false:=by simp only[XI,bY]
def C2D(e:DV)(i:Nat):XI (e,.ptr i 0) (.LY,.FZ)=some false:=by simp only[XI,bY]
def C4Z{α : Type}(l:List α):l.take 0=[]:=by simp
end Go.Su

/-
 The settings of the data machine for this seat: by program.
-/
namespace Go.Su
set_option linter.defProp false
noncomputable section
open Go.Proofs
open Tryz
def spread{α : Type}(d : α):Nat->Nat->List (Nat×α)->List α
 |0,_,_=>[]
 |n+1,i,[]=>d::spread d n (i+1) []
 |n+1,i,(j,x)::l=>match Nat.beq i j with
   |true=>x::spread d n (i+1) l
   |false=>d::spread d n (i+1) ((j,x)::l)
def bxs(d:DV):Nat->Nat->List (DV×H6)
 |_,0=>[]
 |i,n+1=>(A7 i d,.val)::bxs d (i+1) n
def mst(n:Nat)(a:List (Nat×DV))(b:List (Nat×H6))(c:List (Nat×Option (List (DV×H6))))(g:List H7):St:=⟨spread .undef n 0 a,spread .val n 0 b,spread none n 0 c,g⟩
abbrev sF:Option DV:=some (.bool false)
abbrev sT:Option DV:=some (.bool true)
abbrev EX(l:List DV):List DV:=(.int .i64 0)::(.int .i64 0)::(.str ⟨#[]⟩)::(.str ⟨#[]⟩)::(.int .i64 0)::(.str ⟨#[]⟩)::(.int .i64 0)::(.int .i64 0)::(.bool false)::(.list 1 [])::(.int .i64 0)::(.int .i64 0)::(.list 3 [])::(.int .i64 0)::(.int .i64 0)::(.list 3 [])::(.list 3 [])::(.list 7 [])::(.list 20 [])::l
abbrev Dk(l:List DV):List DV:=(.int .i64 0)::(.int .i64 0)::(.str ⟨#[]⟩)::(.int .i64 0)::(.int .i64 0)::(.int .i64 0)::(.bool false)::(.list 5 [])::(.list 9 [])::(.int .i64 0)::(.bool false)::(.int .i64 0)::(.int .i64 0)::(.int .i64 0)::l
abbrev Ue(l:List DV):List DV:=(.int .i64 0)::(.bool false)::(.list 1 [])::(.int .i64 0)::(.int .i64 0)::(.list 3 [])::(.int .i64 0)::(.int .i64 0)::(.list 3 [])::(.list 3 [])::(.list 7 [])::l
abbrev Ha(l:List DV):List DV:=(.bool false)::(.bool false)::(.bool false)::(.bool false)::l
abbrev zz4(l:List (DV×H6)):List (DV×H6):=(.int .i64 0,.val)::(.int .i64 0,.val)::(.int .i64 0,.val)::(.str ⟨#[]⟩,.val)::(.int .i64 0,.val)::(.int .i64 0,.val)::(.int .i64 0,.val)::(.bool false,.val)::(.list 5 [],.full)::(.list 9 [],.full)::(.int .i64 0,.val)::(.bool false,.val)::(.int .i64 0,.val)::(.int .i64 0,.val)::(.int .i64 0,.val)::l
abbrev Bz(l:List DV):List DV:=(.int .i64 0)::(.int .i64 0)::(.list 3 [])::l
abbrev qI(l:List DV):List DV:=(.int .i64 0)::(.int .i64 0)::(.str ⟨#[]⟩)::(.int .i64 0)::(.int .i64 0)::(.int .i64 0)::(.bool false)::(.list 5 [])::(.list 9 [])::l
abbrev Qe(l:List DV):List DV:=(.int .i64 0)::(.int .i64 0)::(.str ⟨#[]⟩)::(.str ⟨#[]⟩)::l
abbrev cZ(l:List DV):List DV:=(.int .i64 0)::(.str ⟨#[]⟩)::(.int .i64 0)::l
abbrev zz9(l:List DV):List DV:=(.int .i64 0)::(.bool false)::(.list 1 [])::l
abbrev B8X(l:List DV):List DV:=(.int .i64 0)::(.int .i64 0)::(.int .i64 0)::(.bool false)::(.list 5 [])::(.list 9 [])::l
abbrev B5s(l:List DV):List DV:=(.list 3 [])::(.list 7 [])::(.list 20 [])::l
abbrev nN:FuncId:=4
abbrev qM:FuncId:=5
abbrev KC:FuncId:=6
abbrev gQ:FuncId:=7
abbrev gJ:FuncId:=8
abbrev KM:FuncId:=9
abbrev A7v:FuncId:=10
abbrev IQ:FuncId:=11
abbrev Qg:FuncId:=12
abbrev PW:FuncId:=13
abbrev gK:FuncId:=15
abbrev Ye:FuncId:=16
abbrev KW:FuncId:=17
abbrev WW:FuncId:=18
abbrev Zo:FuncId:=19
abbrev gT:FuncId:=20
abbrev PY:FuncId:=21
abbrev A1r:FuncId:=22
abbrev gV:FuncId:=23
abbrev Zu:FuncId:=24
abbrev FI:FuncId:=25
abbrev GR:FuncId:=26
abbrev La:FuncId:=27
abbrev Dv:FuncId:=28
abbrev DN:FuncId:=29
abbrev YS:FuncId:=30
abbrev A4M:FuncId:=31
abbrev WS:FuncId:=32
abbrev aX:FuncId:=33
abbrev gU:FuncId:=35
abbrev We:FuncId:=36
abbrev Y8:FuncId:=37
abbrev WY:FuncId:=38
abbrev PX:FuncId:=39
abbrev R_:FuncId:=40
abbrev wT:FuncId:=41
abbrev GM:FuncId:=42
abbrev Yd:FuncId:=43
abbrev Jg:FuncId:=44
abbrev Vs:FuncId:=45
abbrev wS:FuncId:=46
abbrev T_:FuncId:=47
abbrev Lj:FuncId:=48
abbrev KY:FuncId:=49
abbrev jF:FuncId:=50
abbrev A1s:FuncId:=51
abbrev qR:FuncId:=52
abbrev Vt:FuncId:=53
abbrev dD:FuncId:=54
abbrev jE:FuncId:=55
abbrev jG:FuncId:=56
abbrev Am:FuncId:=57
abbrev Zv:FuncId:=58
abbrev dA:FuncId:=59
abbrev qJ:FuncId:=60
abbrev wM:FuncId:=62
abbrev Rz:FuncId:=63
abbrev wN:FuncId:=64
abbrev Bu:FuncId:=65
abbrev Yc:FuncId:=66
abbrev jB:FuncId:=67
abbrev jA:FuncId:=68
abbrev Qh:FuncId:=69
abbrev WR:FuncId:=70
abbrev WU:FuncId:=71
abbrev OA:FuncId:=73
abbrev CU:FuncId:=74
abbrev FH:FuncId:=75
abbrev Tz:FuncId:=76
abbrev VM:FuncId:=77
abbrev Qj:FuncId:=78
abbrev Li:FuncId:=79
abbrev EZ:FuncId:=80
abbrev KX:FuncId:=81
abbrev Zn:FuncId:=82
abbrev JV:FuncId:=83
abbrev JW:FuncId:=84
abbrev Ho:FuncId:=85
abbrev Qi:FuncId:=86
abbrev VL:FuncId:=87
abbrev dB:FuncId:=88
abbrev FF:FuncId:=89
abbrev WV:FuncId:=90
abbrev qL:FuncId:=91
abbrev gL:FuncId:=92
abbrev nO:FuncId:=93
abbrev Tx:FuncId:=94
abbrev wO:FuncId:=95
abbrev A1p:FuncId:=96
abbrev Ef:FuncId:=97
abbrev jC:FuncId:=98
abbrev Jh:FuncId:=99
abbrev A1q:FuncId:=100
abbrev A6N:FuncId:=101
abbrev PZ:FuncId:=102
abbrev Ll:FuncId:=103
abbrev jD:FuncId:=104
abbrev Pd:FuncId:=105
abbrev WQ:FuncId:=107
abbrev Eu:FuncId:=108
abbrev wU:FuncId:=109
abbrev ND:FuncId:=110
abbrev CO:FuncId:=111
abbrev EP:FuncId:=112
abbrev Ov:FuncId:=113
abbrev KA:FuncId:=114
abbrev Zq:FuncId:=115
abbrev wV:FuncId:=116
abbrev SB:FuncId:=117
abbrev wW:FuncId:=118
abbrev K_:FuncId:=119
abbrev Ep:FuncId:=120
abbrev qN:FuncId:=121
abbrev cu:FuncId:=122
abbrev gN:FuncId:=123
abbrev Zr:FuncId:=124
abbrev qK:FuncId:=125
abbrev gP:FuncId:=126
abbrev wR:FuncId:=127
abbrev qP:FuncId:=128
abbrev WX:FuncId:=129
abbrev SA:FuncId:=130
abbrev WZ:FuncId:=131
abbrev Zt:FuncId:=132
abbrev Wh:FuncId:=133
abbrev JX:FuncId:=136
abbrev GN:FuncId:=137
abbrev SC:FuncId:=138
abbrev Wi:FuncId:=139
abbrev Wl:FuncId:=140
abbrev Ev:FuncId:=141
abbrev Wd:FuncId:=142
abbrev gX:FuncId:=143
abbrev FJ:FuncId:=144
abbrev QD:FuncId:=145
abbrev Tw:FuncId:=146
abbrev Ry:FuncId:=147
abbrev Uf:FuncId:=148
abbrev Zp:FuncId:=149
abbrev gM:FuncId:=150
abbrev UA:FuncId:=151
abbrev qQ:FuncId:=152
abbrev jH:FuncId:=153
abbrev gW:FuncId:=154
abbrev QC:FuncId:=155
abbrev Qk:FuncId:=167
abbrev FV:FuncId:=168
abbrev Zw:FuncId:=169
abbrev Zx:FuncId:=170
abbrev qU:FuncId:=171
abbrev LV:FuncId:=172
abbrev dE:FuncId:=174
abbrev qO:FuncId:=175
abbrev Wm:FuncId:=176
abbrev wP:FuncId:=177
abbrev dC:FuncId:=178
abbrev aZ:FuncId:=179
abbrev Wj:FuncId:=187
abbrev NE:FuncId:=188
abbrev Hd:FuncId:=189
abbrev qV:FuncId:=190
abbrev wX:FuncId:=191
abbrev jI:FuncId:=192
abbrev Ug:FuncId:=195
abbrev wQ:FuncId:=196
abbrev nP:FuncId:=197
abbrev Bd:FuncId:=199
abbrev Dw:FuncId:=201
abbrev Y3:FuncId:=202
def A8R:I5:={ keep:=[(13,[1,2,5,6,7],[2,5,6],[],[1,2,5,6,7]),(19,[1,2,5,6,7],[2,5,6],[],[1,2,5,6,7]),(22,[5,7,10,11,12],[5,10,11,12],[],[5,7,10,11,12])] }
def Ve:I5:={ keep:=[(8,[1,2,5,7],[2,5],[],[1,2,5,7])] }
def lF:I5:={ keep:=[(3,[0,3,4],[],[],[0,3,4])] }
def lM:I5:={ keep:=[(4,[1,3],[1],[],[1,3])] }
def A6m:I5:={}
def A6f:I5:={}
def Xo:I5:={ keep:=[(6,[1,2,5],[2],[],[1,2,5])] }
def Pk:I5:={ shared:=[51],Hf:=[49,55],keep:=[(3,[1,2,4,5,6],[2,4],[],[1,2,4,5,6]),(5,[1,2,4,5,6],[2,4],[],[1,2,4,5,6]),(10,[1,2,4,5,6,7,8],[2,4,7,8],[],[1,2,4,5,6,7,8]),(15,[1,4,6,9],[4],[],[1,4,6,9])] }
def lG:I5:={ keep:=[(5,[1,2,3,5,6],[1,2,3,5,6],[],[1,2,3,5,6])] }
def A0N:I5:={}
def A3d:I5:={}
def A4L:I5:={}
def rA:I5:={ keep:=[(4,[1,3],[1],[],[1,3])] }
def oo:I5:={ shared:=[8] }
def A0R:I5:={}
def rG:I5:={ keep:=[(4,[2,3,5],[2,3],[],[2,3,5])] }
def kz:I5:={ keep:=[(4,[2,3,5],[2,3],[],[2,3,5])] }
def rH:I5:={ keep:=[(3,[1,3,4],[1],[],[1,3,4])] }
def RH:I5:={ keep:=[(5,[1,2,5],[2],[],[1,2,5]),(11,[1,2,6],[2],[],[1,2,6]),(15,[1,2,7],[2],[],[1,2,7])] }
def Xn:I5:={ keep:=[(5,[1,5],[1],[],[1,5]),(10,[1,6],[1],[],[1,6]),(15,[1,7],[1],[],[1,7])] }
def aH:I5:={ keep:=[(3,[1,2,3],[3],[],[1,2,3]),(4,[1,2,3,7],[3],[],[1,2,3,7])] }
def A3r:I5:={}
def Sl:I5:={ keep:=[(11,[1],[1],[],[1]),(14,[1,3],[1],[],[1,3])] }
def aJ:I5:={ Q6:=[35],opn:=[30,34],B8B:=[(7,7)],keep:=[(15,[1,2,3,40],[1,2,3],[],[1,2,3,40]),(19,[1,2,3,8],[1,2,3,8],[],[1,2,3,8])] }
def vJ:I5:={}
def eD:I5:={ keep:=[(11,[1],[1],[],[1])] }
def kw:I5:={ keep:=[(2,[1,2,3,10,11],[1,2,3],[],[1,2,3,10,11])] }
def Gc:I5:={ Q6:=[4,15,24,48,92],opn:=[96,97],Hf:=[12,19,30,60,67],B8B:=[(22,99)],keep:=[(9,[0,2,4,5,6],[2,5,6],[],[0,2,4,5,6]),(17,[0,2,5,6],[2,5,6],[],[0,2,5,6]),(22,[0,2,6],[2,6],[],[0,2,6])] }
def Dq:D_:={ params:=[.val],results:=[.val] }
def ky:I5:={ keep:=[(4,[0,2,4],[2,4],[],[0,2,4])] }
def A6g:I5:={}
def A8S:I5:={}
def B5J:I5:={ keep:=[(4,[2,3,5],[2,3],[],[2,3,5])] }
def MX:I5:={ Q6:=[7,120],keep:=[(5,[0,2,4,7,8],[4],[7],[0,2,4,8]),(12,[0,2,4,7,8,9],[4],[7],[0,2,4,8,9]),(19,[0,2,4,7,8,9,10,11],[4],[7],[0,2,4,8,9,10,11]),(22,[0,2,4,7,8,9],[4],[7],[0,2,4,8,9]),(25,[0,2,4,7,12,13],[4],[],[0,2,4,7,12,13])] }
def Iz:D_:={ params:=[.val,.val,.val],results:=[.val] }
def A0W:I5:={}
def Py:I5:={ keep:=[(8,[4,6],[4,6],[],[4,6])] }
def Jw:D_:={ params:=[.val,.val,.val],results:=[.val,.val] }
def UL:I5:={ keep:=[(3,[2,3],[2,3],[],[2,3]),(6,[2,3,5],[2,3],[],[2,3,5]),(11,[2,3,6],[2,3],[],[2,3,6])] }
def A3i:I5:={}
def Xk:I5:={ keep:=[(5,[1,2,5],[2],[],[1,2,5])] }
def rJ:I5:={ keep:=[(25,[1,2,4,9],[1,2,4],[],[1,2,4,9])] }
def lH:I5:={ keep:=[(4,[1,3],[1],[],[1,3])] }
def Xm:I5:={ keep:=[(5,[3,4],[],[],[3,4])] }
def rC:I5:={ keep:=[(4,[0,3],[],[],[0,3])] }
def xW:I5:={ keep:=[(2,[0,1,5],[],[],[0,1,5])] }
def UJ:I5:={ Q6:=[4,6,39],keep:=[(2,[0,1,5],[],[],[0,1,5]),(4,[0,1,5],[],[],[0,1,5]),(6,[0,1,5],[],[],[0,1,5])] }
def lL:I5:={ keep:=[(5,[1,2],[2],[],[1,2])] }
def Vf:I5:={ keep:=[(3,[1,2,5],[2],[],[1,2,5])] }
def Mv:I5:={ keep:=[(3,[1,2,5],[2],[],[1,2,5]),(7,[1,2,6],[2],[],[1,2,6])] }
def A0U:I5:={}
def xY:I5:={ keep:=[(14,[1,3,4],[1],[],[1,3,4])] }
def A3q:I5:={}
def A8U:I5:={}
def Sm:I5:={ keep:=[(4,[3,4,5,6,7,8],[3,4,5,6,7],[],[3,4,5,6,7,8]),(9,[3,4,5,6,7,9],[3,4,5,6,7,9],[],[3,4,5,6,7,9])] }
def PH:I5:={ Q6:=[5,19,30],keep:=[(2,[1,2,3,4],[1,2,3],[],[1,2,3,4]),(10,[2,3,5,8,9],[2,3,8],[],[2,3,5,8,9])] }
def VG:I5:={ keep:=[(4,[2,3,4,5,6,7],[2,3,4,5,6,7],[],[2,3,4,5,6,7]),(13,[2,3,4,5,6,7],[2,3,4,5,6,7],[],[2,3,4,5,6,7])] }
def A6q:I5:={}
def Xr:I5:={}
def vI:I5:={}
def A3f:I5:={}
def qz:I5:={ keep:=[(4,[4,5],[4,5],[],[4,5])] }
def A6e:I5:={}
def q_:I5:={ keep:=[(4,[1,2,3,4],[1,2,3,4],[],[1,2,3,4])] }
def A0P:I5:={}
def Xj:I5:={ keep:=[(4,[3,4,5,6,7,8],[3,4,5,6,7],[],[3,4,5,6,7,8])] }
def PG:I5:={ shared:=[22],keep:=[(2,[1,2,3,14,15,16],[1,2,3],[],[1,2,3,14,15,16]),(11,[2,3,8,52,53,54],[2,3,8],[],[2,3,8,52,53,54])] }
def eB:I5:={ keep:=[(4,[2,3,4,5,6,7],[2,3,4,5,6,7],[],[2,3,4,5,6,7])] }
def A0O:I5:={ Q6:=[2,4,10,16,18] }
def Zh:D_:={ params:=[.val],results:=[.own,.val] }
def FO:I5:={ keep:=[(6,[0,4,5,6,7,26],[4,5,6],[],[0,4,5,6,7,26]),(9,[0,4,5,6,7,8,26,29,30,31],[4,5,6],[],[0,4,5,6,7,8,26,29,30,31]),(15,[0,4,5,6,7,8,11,26,29,30,31],[4,5,6,11],[],[0,4,5,6,7,8,11,26,29,30,31])] }
def A6j:I5:={}
def B5I:I5:={ keep:=[(4,[2,3,5],[2,3],[],[2,3,5])] }
def A6n:I5:={ Q6:=[6] }
def vK:I5:={}
def YP:D_:={ params:=[.val,.val],results:=[.val] }
def rE:I5:={ keep:=[(3,[1,3,4],[1],[],[1,3,4])] }
def A3o:I5:={ Q6:=[2] }
def Mt:I5:={ keep:=[(3,[0,1,2,3,9,10],[],[],[0,1,2,3,9,10]),(7,[0,1,2,9,11],[],[],[0,1,2,9,11])] }
def Iy:D_:={ params:=[.val,.val,.val,.val],results:=[.val] }
def eQ:I5:={ keep:=[(4,[9,10,11],[],[],[9,10,11])] }
def LH:I5:={ Q6:=[10,61,74],keep:=[(2,[0,2,4,6,8],[4,6],[],[0,2,4,6,8]),(14,[4,6,9,10,54,55,56],[4,6,9],[10],[4,6,9,54,55,56])] }
def Gn:D_:={ params:=[.val,.val,.val],results:=[.val,.val] }
def MG:I5:={ keep:=[(2,[0,9,10,11],[],[],[0,9,10,11]),(5,[0,9,10,11,16,17,18],[],[],[0,9,10,11,16,17,18])] }
def Hz:D_:={ params:=[.val,.val],results:=[.val] }
def A0S:I5:={ Q6:=[4] }
def Zi:D_:={ params:=[.val,.val],results:=[.own] }
def A3h:I5:={}
def bK:I5:={}
def QA:D_:={ params:=[.val,.val,.val],results:=[.val,.val] }
def RG:I5:={ keep:=[(10,[0,2,4,6,9,10,11],[4,6,9,10],[],[0,2,4,6,9,10,11])] }
def LM:D_:={ params:=[.val,.val,.val],results:=[.val,.val] }
def Jp:I5:={ Q6:=[15,59,76],keep:=[(6,[0,2,4,6,8,10,34,35,36],[4,6,8,10],[],[0,2,4,6,8,10,34,35,36]),(13,[0,2,4,6,8,10,11,15,34,35,36,53,54,55],[4,6,8,10],[15],[0,2,4,6,8,10,11,34,35,36,53,54,55])] }
def GH:D_:={ params:=[.val,.val,.val],results:=[.val,.val] }
def Px:I5:={ Q6:=[6,8,30,35],keep:=[(3,[0,2,8,14,15,16],[],[8],[0,2,14,15,16])] }
def Jv:D_:={ params:=[.val,.val,.val],results:=[.val,.val] }
def Ms:I5:={ keep:=[(13,[0,2,4,6,11],[4,6],[],[0,2,4,6,11]),(21,[2,6,8,9],[6],[],[2,6,8,9])] }
def Iw:D_:={ params:=[.val,.val,.val],results:=[.val,.val] }
def ZM:I5:={ keep:=[(4,[0,1,5],[],[],[0,1,5])] }
def rD:I5:={ keep:=[(4,[2,3,5],[2,3],[],[2,3,5])] }
def VF:I5:={ keep:=[(4,[2,3,5],[2,3],[],[2,3,5]),(9,[2,3,6],[2,3],[],[2,3,6])] }
def lD:I5:={ keep:=[(2,[0,3],[],[],[0,3])] }
def A6i:I5:={}
def gy:I5:={ keep:=[(25,[1,3,4],[1,4],[],[1,3,4]),(28,[1,3,5],[1],[],[1,3,5])] }
def A3m:I5:={}
def A6h:I5:={}
def gu:I5:={ keep:=[(2,[0,3],[],[],[0,3]),(8,[0,4,5],[],[],[0,4,5])] }
def Vg:I5:={ keep:=[(3,[1,2,5],[2],[],[1,2,5])] }
def A0T:I5:={}
def A6o:I5:={}
def xX:I5:={ keep:=[(4,[1,2,4,7,8,10],[4,7,8],[],[1,2,4,7,8,10])] }
def B1g:I5:={}
def A3s:I5:={}
def EM:I5:={ Q6:=[6,11,14,20,25,33,37,70,86,110,131,139,147,149,162,164],keep:=[(9,[2,3,8,9,10,11],[3,8,9,10],[2],[3,8,9,10,11]),(10,[2,3,8,9,10,11],[3,8,9,10],[2],[3,8,9,10,11]),(11,[2,3,8,9,10],[3,8,9,10],[2],[3,8,9,10]),(12,[2,3,8,9,10,11],[3,8,9,10],[2],[3,8,9,10,11]),(14,[2,3,8,9,10,11],[3,8,9,10],[2],[3,8,9,10,11]),(15,[2,3,8,9,10,11],[3,8,9,10],[2],[3,8,9,10,11]),(16,[2,8,9],[8,9],[2],[8,9]),(17,[2,3,8,9,10,11],[3,8,9,10],[2],[3,8,9,10,11]),(18,[2,3,8,9,10,11],[3,8,9,10],[2],[3,8,9,10,11]),(19,[2,3,8,10,11],[3,8,10],[2],[3,8,10,11])] }
def CX:D_:={ params:=[.val,.val,.own],results:=[.own,.val,.val] }
def A3p:I5:={ Q6:=[14],keep:=[(3,[0,2,3,4],[2,3],[3],[0,2,4])] }
def NW:I5:={ keep:=[(3,[1,2,3],[3],[],[1,2,3]),(4,[1,2,3,29,30,31],[3],[],[1,2,3,29,30,31]),(8,[1,2,3,7,8,29,30,31,39,40,41],[3,7],[],[1,2,3,7,8,29,30,31,39,40,41]),(14,[1,2,3,29,30,31,54,55,56],[3],[],[1,2,3,29,30,31,54,55,56])] }
def JU:D_:={ params:=[.val,.val,.val],results:=[] }
def kv:I5:={}
def A3e:I5:={}
def A6r:I5:={ shared:=[17] }
def A0Q:I5:={}
def Jo:I5:={ Q6:=[7,21,30,33,111],keep:=[(10,[0,4,7,8],[4,8],[],[0,4,7,8]),(23,[0,4,7,8],[4,8],[],[0,4,7,8])] }
def GG:D_:={ params:=[.val,.val,.val],results:=[.val] }
def rM:I5:={ keep:=[(4,[3,29,30,31],[3],[],[3,29,30,31])] }
def Sk:I5:={ Q6:=[28],keep:=[(12,[1,2,4],[1,2,4],[4],[1,2]),(13,[2,4,24,25],[2,4],[4],[2,24,25])] }
def A3g:I5:={}
def lI:I5:={ Q6:=[1,4,9,26,28],keep:=[(4,[1,2,5],[2],[1],[2,5])] }
def VK:D_:={ params:=[.val,.own],results:=[.own] }
def MZ:I5:={ keep:=[(4,[1,3],[1,3],[],[1,3]),(6,[1,3],[1,3],[],[1,3]),(8,[1,3],[1,3],[],[1,3]),(10,[1,3],[1,3],[],[1,3]),(12,[1,3],[1,3],[],[1,3])] }
def Xq:I5:={ keep:=[(5,[1,2,4,6,16,17,18],[2,4],[],[1,2,4,6,16,17,18])] }
def A6t:I5:={ Q6:=[2] }
def Oa:I5:={ keep:=[(2,[0,1,7,8,9],[],[],[0,1,7,8,9])] }
def JQ:D_:={ params:=[.val,.val],results:=[.val] }
def OZ:I5:={ keep:=[(1,[0,2,8,9,10],[],[],[0,2,8,9,10])] }
def JP:D_:={ params:=[.val,.val,.val],results:=[] }
def A3j:I5:={ Q6:=[4,6,16,20,24] }
def vH:I5:={}
def UK:I5:={ keep:=[(3,[2,3],[2,3],[],[2,3]),(6,[2,3,5],[2,3],[],[2,3,5]),(11,[2,3,6],[2,3],[],[2,3,6])] }
def lJ:I5:={ keep:=[(4,[2,3,5],[2,3],[],[2,3,5])] }
def k_:I5:={ keep:=[(3,[0,3,4],[],[],[0,3,4])] }
def rF:I5:={ keep:=[(4,[1,2,5],[2],[],[1,2,5])] }
def A6l:I5:={ Q6:=[2] }
def A3l:I5:={}
def eF:I5:={ keep:=[(4,[1,2,3,7],[3],[],[1,2,3,7])] }
def QX:I5:={ Q6:=[9,38,46,58],keep:=[(3,[1,2,4,7,8],[4,7,8],[],[1,2,4,7,8]),(5,[1,2,4,7,8,9,10],[4,7,8],[9],[1,2,4,7,8,10])] }
def A0V:I5:={ Q6:=[3,5,10,17,19] }
def Zj:D_:={ params:=[.val],results:=[.val,.own] }
def Xp:I5:={ Q6:=[4,6,86,90],keep:=[(6,[1,2,5,6,7,8],[2,5],[6],[1,2,5,7,8]),(10,[1,2,5,6,7,8,9,10],[2,5,9],[6],[1,2,5,7,8,9,10])] }
def eO:I5:={ Q6:=[4],keep:=[(5,[1,2],[2],[],[1,2])] }
def MH:I5:={ Q6:=[6,58,73],keep:=[(10,[0,3,4,6,51,52,53],[3,4],[6],[0,3,4,51,52,53]),(19,[0,3,4,9,83,84,85],[3,4],[],[0,3,4,9,83,84,85])] }
def H_:D_:={ params:=[.val,.val],results:=[.val,.val],lock:=true }
def A3u:I5:={}
def oz:I5:={}
def A0X:I5:={}
def A0Y:I5:={}
def PI:I5:={ keep:=[(2,[1,10,11,12],[1],[],[1,10,11,12]),(8,[1,24,25,26],[1],[],[1,24,25,26]),(14,[35,36,37],[],[],[35,36,37])] }
def eH:I5:={ Q6:=[45],keep:=[(10,[1,2,6,9,38,39,40],[6,9],[9],[1,2,6,38,39,40])] }
def TE:D_:={ params:=[.val,.val,.val],results:=[.val] }
def aK:I5:={ Q6:=[2,6,17,36,39],keep:=[(5,[1,2,3],[3],[2],[1,3]),(6,[1,2,28,29,30],[],[2],[1,28,29,30])] }
def Rk:D_:={ params:=[.val,.val,.own],results:=[.own] }
def Nw:I5:={}
def IB:I5:={ shared:=[1,2,3],keep:=[(3,[2,3,8],[],[],[2,3,8]),(6,[3,4],[4],[],[3,4])] }
def Xl:I5:={ Q6:=[2,6,14,23,26,59,65,67,72],keep:=[(16,[2,3,8],[3],[2],[3,8]),(17,[2,8,52,53,54],[],[2],[8,52,53,54])] }
def PT:D_:={ params:=[.val,.val,.own],results:=[.own,.val] }
def Xi:I5:={ keep:=[(8,[3,33,34,35],[3],[],[3,33,34,35])] }
def ZN:I5:={ keep:=[(4,[2,3,5],[2,3],[],[2,3,5])] }
def lC:I5:={ keep:=[(3,[1,2,5],[2],[],[1,2,5])] }
def aG:I5:={ Q6:=[1,4,16,33,35],keep:=[(3,[1,2],[2],[1],[2]),(4,[1,2,5],[2],[1],[2,5])] }
def Rf:D_:={ params:=[.val,.own],results:=[.own] }
def RI:I5:={ Q6:=[7,9,37,56,66,77],keep:=[(4,[1,2,4,5,6],[2,4],[],[1,2,4,5,6]),(7,[1,2,4,5,7,8],[2,4],[7],[1,2,4,5,8]),(12,[1,2,4,5,7,9,10],[2,4],[9],[1,2,4,5,7,10])] }
def lK:I5:={ Q6:=[4,5,13,25],keep:=[(3,[0,1,5,6],[],[5],[0,1,6])] }
def eG:I5:={ keep:=[(1,[1,2,3],[1,2,3],[],[1,2,3])] }
def A6p:I5:={}
def Vh:I5:={ Q6:=[1,4,10,23,26],keep:=[(4,[1,16,17,18],[],[1],[16,17,18])] }
def NC:D_:={ params:=[.val,.own],results:=[.own] }
def PK:I5:={ hide:=[45,55],keep:=[(3,[1,2,4,18,19,20],[2,4],[],[1,2,4,18,19,20]),(8,[1,2,4,34,35,36],[2,4],[],[1,2,4,34,35,36]),(14,[1,2,4],[2,4],[],[1,2,4])] }
def KE:I5:={}
def lN:I5:={ keep:=[(9,[33,34,35],[],[],[33,34,35])] }
def lQ:I5:={ keep:=[(4,[0,3],[],[],[0,3])] }
def A3t:I5:={}
def Ko:I5:={ keep:=[(2,[0,1,7,8],[],[],[0,1,7,8])] }
def ZP:I5:={ keep:=[(24,[1,3,4],[1,3],[],[1,3,4])] }
def A3k:I5:={}
def A0Z:I5:={}
def A3n:I5:={ keep:=[(2,[0,1,5],[],[],[0,1,5])] }
def ZO:I5:={ Q6:=[4,5,21,28],keep:=[(3,[0,1,5,6],[],[5],[0,1,6])] }
def A8T:I5:={}
def A6s:I5:={}
def ow:I5:={ shared:=[3] }
def Gd:I5:={ keep:=[(2,[0,1,7,8],[],[],[0,1,7,8])] }
def A3v:I5:={}
def A6u:I5:={}
def A00:I5:={}
def ZQ:I5:={ keep:=[(4,[1,12,13,14],[],[],[1,12,13,14])] }
def A6k:I5:={}
def gz:I5:={ Q6:=[42],keep:=[(3,[1,2,4,5],[2,4],[],[1,2,4,5]),(10,[1,2,4,6,7],[2,4,6],[6],[1,2,4,7])] }
def DC:I5:={ keep:=[(5,[0,1,5,6],[],[],[0,1,5,6])] }
def BL:D_:={ params:=[.val,.val],results:=[.val],lock:=true }
def f_:I5:={}
def Rh:D_:={ params:=[.val,.val],results:=[.val] }
def Da:I5:={ keep:=[(2,[0,1,7,8],[],[],[0,1,7,8])] }
def BV:D_:={ params:=[.val,.val],results:=[.val] }
def flL:List I5:=[{},{},{},A8R,Ve,lF,lM,A6m,A6f,Xo,Pk,lG,A0N,A3d,A4L,rA,oo,A0R,rG,kz,rH,RH,Xn,aH,A3r,Sl,aJ,vJ,eD,kw,Gc,ky,A6g,A8S,B5J,MX,A0W,Py,UL,A3i,Xk,rJ,lH,Xm,rC,xW,UJ,lL,Vf,Mv,A0U,xY,A3q,A8U,Sm,PH,VG,A6q,Xr,vI,A3f,{},qz,A6e,q_,A0P,Xj,PG,eB,A0O,FO,A6j,B5I,A6n,vK,rE,A3o,Mt,eQ,LH,MG,A0S,A3h,bK,RG,Jp,Px,Ms,ZM,rD,VF,lD,A6i,gy,A3m,A6h,gu,Vg,A0T,A6o,xX,B1g,A3s,EM,A3p,NW,{},kv,A3e,A6r,A0Q,Jo,rM,Sk,A3g,lI,MZ,Xq,A6t,Oa,OZ,A3j,vH,UK,lJ,k_,rF,A6l,A3l,eF,QX,A0V,Xp,eO,{},{},MH,A3u,oz,A0X,A0Y,PI,eH,aK,Nw,IB,Xl,Xi,ZN,lC,aG,RI,lK,eG,A6p,Vh,{},{},{},{},{},{},{},{},{},{},{},PK,KE,lN,lQ,A3t,Ko,{},ZP,A3k,A0Z,A3n,ZO,A8T,{},{},{},{},{},{},{},A6s,ow,Gd,A3v,A6u,A00,{},{},ZQ,A6k,gz,{},DC,{},f_,Da,{},{},{},{},{},{},{},{},{},{},{},{},{},{},{},{},{}]
def C87:List (Option D_):=List.replicate 30 (none:Option D_)++[some Dq,none,none,none,none,some Iz,none,some Jw]++List.replicate 31 (none:Option D_)++[some Zh,none,none,none,none,some YP,none,none,some Iy,none,some Gn,some Hz,some Zi,none,some QA,some LM,some GH,some Jv,some Iw]++List.replicate 15 (none:Option D_)++[some CX,none,some JU,none,none,none,none,none,some GG,none,none,none,some VK,none,none,none,some JQ,some JP]++List.replicate 10 (none:Option D_)++[some Zj,none,none,none,none,some H_,none,none,none,none,none,some TE,some Rk,none,none,some PT,none,none,none,some Rf,none,none,none,none,some NC]++List.replicate 43 (none:Option D_)++[some BL,none,some Rh,some BV]++List.replicate 16 (none:Option D_)++[none]
def clL:List FuncId:=[61,186,200]
def csL:List (FuncId×Nat):=[(61,20),(186,3),(200,4),(173,7)]
def mkL:List (FuncId×FuncId):=[(173,193)]
def itF(f:FuncId):Option (List DV->Option (List DV)):=if f=193 then some (VH 7 6)else none
def Z7:Code:=f58.body.getD .skip
def RS:KP where
 pre6:=(C2a Z7 [true,true,true,true,true,false,false]).take 1
 vo:=Hy Z7 [true,true,true,true,true,false,false] 1
 A9r:=Hy Z7 [true,true,true,true,true,false,true,false,false,false] 0
 B8p:=Hy Z7 [true,true,true,true,true,false,true,false,false,false] 1
 A9q:=Hy Z7 [true,true,true,true,true,false,true,false,false,true,true,false,false] 0
 B27:=Hy Z7 [true,true,true,true,true,false,true,false,false,true,true,false,false] 1
 B8o:=Hy Z7 [true,true,true,true,true,false,true,false,false,true,true,false,false] 2
 rMv:=Hy Z7 [true,true,true,true,true,false,true,false,false,true,true,false,true] 0
 B8q:=Hy Z7 [true,true,true,true,true,false,true,false,false,true,true,false,true] 1
 rBs:=Hy Z7 [true,true,true,true,true,false,true,false,false,true,true,false,true] 2
 B8n:=Hy Z7 [true,true,true,true,true,false,true,false,false,true,true,false,true] 3
 B26:=Hy Z7 [true,true,true,true,true,false,true,false,false,true,true,false,true] 4
 B4y:=Hy Z7 [true,true,true,true,true,true,false] 0
 A4y:=Hy Z7 [true,true,true,true,true,true,false] 1
 i6:=6
 b0:=0
 i7:=7
 b1:=1
 i8:=8
 i9:=9
 i10:=10
 it:=15
 mm:=14
 t21:=16
 t22:=17
 t23:=18
 t24:=19
 tk:=5
 t25:=20
 t26:=21
 t27:=22
 t28:=23
 tl:=4
 t29:=24
 t30:=25
 tm:=135
 ts:=34
 te:=9
 kt:=9
 vt:=3
 f:=106
def Gv:Cut where
 pre:=B7g 5 Z7
 mid:=RS.mid Tryz.prog
 post:=B6G 7 Z7
def dcL:List (FuncId×C46):=[]
def dfL:List FuncId:=[]
def C84:List TypeId:=[]
def B8k:List (FuncId×Cut):=[(58,Gv)]
def cfg:AB where
 P:=Tryz.prog
 fl f:=flL.getD f {}
 sig f:=C87.getD f none
 eZ f:=B8k.lookup f
 clone f:=clL.contains f
 tK f:=(csL.lookup f).getD 0
 pV f:=mkL.lookup f
 iter f:=itF f
 ref t:=C84.contains t
 C1i f:=dcL.lookup f
 dfn f:=dfL.contains f
def Ck:List (DV×H6):=[((.int .i64 0),.val),((.int .i64 0),.val),((.int .i64 0),.val),((.str ⟨#[]⟩),.val),((.int .i64 0),.val),((.int .i64 0),.val),((.int .i64 0),.val),((.bool false),.val),((.list 5 []),.val),((.list 9 []),.val),((.int .i64 0),.val),((.bool false),.val),((.int .i64 0),.val),((.int .i64 0),.val),((.int .i64 0),.val)]
def zb1:List (DV×H6):=[((.int .i64 0),.val),((.int .i64 0),.val),((.int .i64 0),.val),((.str ⟨#[]⟩),.val),((.str ⟨#[]⟩),.val),((.int .i64 0),.val),((.str ⟨#[]⟩),.val),((.int .i64 0),.val),((.int .i64 0),.val),((.bool false),.val),((.list 1 []),.val),((.int .i64 0),.val),((.int .i64 0),.val),((.list 3 []),.val),((.int .i64 0),.val),((.int .i64 0),.val),((.list 3 []),.val),((.list 3 []),.val),((.list 7 []),.val),((.list 20 []),.val),((.int .i64 0),.val),((.int .i64 0),.val),((.int .i64 0),.val),((.str ⟨#[]⟩),.val),((.str ⟨#[]⟩),.val),((.int .i64 0),.val),((.str ⟨#[]⟩),.val),((.int .i64 0),.val),((.int .i64 0),.val),((.bool false),.val),((.list 1 []),.val),((.int .i64 0),.val),((.int .i64 0),.val),((.list 3 []),.val),((.int .i64 0),.val),((.int .i64 0),.val),((.list 3 []),.val),((.list 3 []),.val),((.list 7 []),.val),((.list 20 []),.val)]
def MR:List (DV×H6):=[((.int .i64 0),.val),((.int .i64 0),.val),((.int .i64 0),.val),((.str ⟨#[]⟩),.val),((.str ⟨#[]⟩),.val),((.int .i64 0),.val),((.str ⟨#[]⟩),.val),((.int .i64 0),.val),((.int .i64 0),.val),((.bool false),.val),((.list 1 []),.val),((.int .i64 0),.val),((.int .i64 0),.val),((.list 3 []),.val),((.int .i64 0),.val),((.int .i64 0),.val),((.list 3 []),.val),((.list 3 []),.val),((.list 7 []),.val),((.list 20 []),.val)]
def nK:List (DV×H6):=[((.int .i64 0),.val),((.int .i64 0),.val),((.list 3 []),.val)]
abbrev C9:=run cfg
def hP(fn:Func)(fl:I5)(R:U1)(l:List Bool)(s:St):=B2Z cfg R fl (Vp cfg.P fn) l (fn.body.getD .skip) s
def eP(fn:Func)(fl:I5)(R:U1)(l:List Bool)(s:St):=UI cfg R fl (Vp cfg.P fn) l (fn.body.getD .skip) s
def C9s{f:FuncId}{fn:Func}{ds:List DV}{X:Option DV}{d:DV}(hf:cfg.P.funcs[f]?=some fn)(hp:cfg.eZ f=none)(hb:fn.body=some (fn.body.getD .skip))(hX:UI cfg (run cfg) (cfg.fl f) (Vp cfg.P fn) [] (fn.body.getD .skip) (I6 fn (ds.map λd=>(d,.val)) [])=X)(h:X=some d):(run cfg).p f ds=some d:=(B3N hp hf hb).trans (hX.trans h)
def pbA:Nat->Nat->List Bool->List Bool
  |0,_,a=>a
  |k+1,n,a=>match Nat.ble n 1 with
    |true=>a
    |false=>pbA k (n / 2) (Nat.beq (n % 2) 1::a)
def pb(n:Nat):List Bool:=pbA 300 n []
def mrg:Nat->List (Nat×H6)->List Nat->List (Nat×H6)
  |0,_,_=>[]
  |_+1,l,[]=>l
  |k+1,[],j::b=>(j,.loc j 0)::mrg k [] b
  |k+1,(i,m)::l,j::b=>match Nat.ble i j with
    |true=>(i,m)::mrg k l (j::b)
    |false=>(j,.loc j 0)::mrg k ((i,m)::l) b
def ms(n:Nat)(a:List (Nat×DV))(b:List (Nat×H6))(c:List (Nat×Option (List (DV×H6))))(g:List H7):St:=mst n a (mrg 300 b (c.map Prod.fst)) c g
def bx(d:DV)(n:Nat):=some (bxs d 0 n)
def bv(l:List DV):Option (List (DV×H6)):=some (l.map λd=>(d,.val))
def hR(fn:Func)(g:D_)(fl:I5)(R:U1)(l:List Bool)(s:St):=B2Z cfg R fl (mY cfg.P fn g) l (fn.body.getD .skip) s
def eR(fn:Func)(g:D_)(fl:I5)(R:U1)(l:List Bool)(s:St):=UI cfg R fl (mY cfg.P fn g) l (fn.body.getD .skip) s
def LU{f:FuncId}{fn:Func}{s:D_}{rs:List (DV×H6)}{sg:List H7}{q:Option (List DV×List H7)}(hf:cfg.P.funcs[f]?=some fn)(hs:cfg.sig f=some s:=by kernel_rfl)(hb:fn.body=some (fn.body.getD .skip):=by kernel_rfl)(hp:cfg.C1i f=none:=by kernel_rfl)(h:UI cfg (run cfg) (cfg.fl f) (mY cfg.P fn s) [] (fn.body.getD .skip) (I6 fn rs sg)=q:=by kernel_rfl):(run cfg).r f rs sg=q:=(C3B hs hf hb hp).trans h
def Q0{f:FuncId}{fn:Func}{ds:List DV}{q:Option DV}(hf:cfg.P.funcs[f]?=some fn)(hp:cfg.eZ f=none:=by kernel_rfl)(hb:fn.body=some (fn.body.getD .skip):=by kernel_rfl)(h:UI cfg (run cfg) (cfg.fl f) (Vp cfg.P fn) [] (fn.body.getD .skip) (I6 fn (ds.map λd=>(d,.val)) [])=q:=by kernel_rfl):(run cfg).p f ds=q:=(B3N hp hf hb).trans h
end
end Go.Su

/-
 The program's iterators keep their word: by program.
-/
namespace Go.Su
noncomputable section
open Go.Proofs Go.RowKit Go.Shelf
attribute [local go_sem] Oper.semAt_some
variable {F:Fence}
theorem C0j(hd:F.depth=none)(k:Nat):F.room k:=λd h=>by rw[hd]at h;cases h
theorem RoundIn.C7W(hd:F.depth=none){m m':Nat}{P:Program}{l:Nat}{f:FuncId}{tmps:Array Value}{assign body:Code}{w:World}{R:Ending->World->Prop}(h:RoundIn F m P l f tmps assign body w R):RoundIn F m' P l f tmps assign body w R:=⟨h.1,λc cs _=>h.2 c cs (C0j hd _)⟩
set_option maxHeartbeats 1000000 in
theorem C3W:C0Y Tryz.prog 173 193 7:=by
 intro w vs hs;obtain⟨l⟩:=vs
 match l,hs with
 |[v0,v1,v2,v3,v4,v5,v6],_=>
 refine(callsIn_wide (n:=1)).1 (callsIn_of_wp Tryz.func173 rfl trivial ?_);simp only[Tryz.ntmps173,zAq,zaq,zbq,Nat.reduceAdd,Nat.reduceSub,zoq,zpq,zBq,zqq,zMq,zEq]
 gi_wp2
 go_ret
 exact⟨rfl,_,rfl⟩
set_option maxRecDepth 10000 in
set_option maxHeartbeats 4000000 in
theorem C3H(l n0:Nat)(ds:List DV)(J:Nat->Env->World->Prop)(Jx:World->Prop)(n:Nat)(hf:∀k E' W',J k E' W'->∀b o,W'.heap.size<=b->E'.O b o=.other)(hI:∀k E' W1 W2,J k E' W1->Wn n0 E' W1 W2->J k E' W2)(hY:∀k E' W1 d v,J k E' W1->ds[k]?=some d->RV E'.S W1.heap d v->YieldAt Fence.wide n Tryz.prog l #[v] W1 λe W2=>
   (e=.returned (.bool true)/\∃E2,J (k+1) E2 W2/\Pr Q4 E' W1.heap E2 W2.heap)\/(e=.returned (.bool false)/\Jx W2)):
 ∀(m:Nat)(d:DV)(sub:List DV),CY 7 6 m d=some sub->∀(k:Nat)(E:Env)(W:World)(v:Value),J k E W->RV E.S W.heap d v->(∀j x,sub[j]?=some x->ds[k+j]?=some x)->n0<=W.heap.size->CallsIn Fence.wide n Tryz.prog 194 #[v,.func (.yield l) #[] #[]] W λe W'=>(e=.returned (.bool true)/\∃E',J (k+sub.length) E' W'/\aa E W E' W')\/(e=.returned (.bool false)/\Jx W'):=by
 intro m;induction m with
 |zero=>intro d sub h;simp[CY]at h
 |succ m ih=>
   intro d sub Nc k E W v hJ hv Qa hn0;cases d with
   |agg cs=>
     rw[CY]at Nc;obtain⟨h1,Nc⟩:=I9 Nc;cases hk:cs.getD 6 .undef with
     |list s kds=>
       rw[hk]at Nc;simp only at Nc;obtain⟨h2,Nc⟩:=I9 Nc;obtain⟨ks,h3,Nc⟩:=D8 Nc;simp only[D9]at Nc;subst Nc;simp only[beq_iff_eq,z0q,F5]at h1 h2;obtain⟨h2,lY⟩:=h2;subst h2;have WJ:=hv;simp only[RV]at WJ;obtain⟨vs,rfl,UU⟩:=WJ;obtain⟨hl,UU⟩:=Gr.1 UU;obtain⟨l',rfl⟩:∃l':List Value,vs=l'.toArray:=⟨vs.toList,by simp⟩;simp only at hl UU
       match l',hl.symm.trans h1 with
       |[v0,v1,v2,v3,v4,v5,v6],_=>
       have hk5:cs[6]?=some (.list 7 kds):=by
        have:6<cs.length:=by omega
        rw[z4q,z1q this]at hk;rw[z1q this];exact congrArg some hk
       have hkc:=(UU 6 _ v6 hk5 rfl).2;simp only[RC]at hkc;obtain⟨ka,len,cap,h4,h5,h6,h7,h8,h9⟩:=hkc;simp only[List.cons.injEq,and_true]at h4;subst h4 h5;have UQ:∀k:Nat,(Fence.wide.depth.isSome=true->1<=k):=λk h=>by cases h
       have ho:∀o,E.O W.heap.size o=.other:=λo=>hf k E W hJ _ o (Nat.le_refl _);have key:∀T,∃fy ty ay by_,(Instr.yield l #[.agg #[v0,v1,v2,v3,v4,v5,.slice ka kds.length cap]]).run Tryz.prog (W.alloc (.cells #[v0,v1,v2,v3,v4,v5,.slice ka kds.length cap] T))=.ok (.round l fy ty ay by_) (W.alloc (.cells #[v0,v1,v2,v3,v4,v5,.slice ka kds.length cap] T)) /\
        RoundIn Fence.wide (n-1) Tryz.prog l fy ty ay by_ (W.alloc (.cells #[v0,v1,v2,v3,v4,v5,.slice ka kds.length cap] T)) λe W2=>(e=.returned (.bool true)/\∃E2,J (k+1) E2 W2/\aa E W E2 W2/\(W2.heap[W.heap.size]?=some (.cells #[v0,v1,v2,v3,v4,v5,.slice ka kds.length cap] T (0,0))/\(∀o,E2.O W.heap.size o=.other))/\W2.cell? ⟨W.heap.size,6,none⟩=some (.slice ka kds.length cap))\/(e=.returned (.bool false)/\Jx W2):=by
        intro T;have hJ1:J k E (W.alloc (.cells #[v0,v1,v2,v3,v4,v5,.slice ka kds.length cap] T)):=hI _ _ _ _ hJ (Wn.alloc _);have K1:=aa.alloc (E:=E) (W:=W) (.cells #[v0,v1,v2,v3,v4,v5,.slice ka kds.length cap] T) (hf k E W hJ);obtain⟨fy,ty,ay,by_,hy,hR⟩:=hY k E _ (.agg cs) _ hJ1 (Qa 0 _ rfl) (RV.mono K1.sh _ hv);refine⟨fy,ty,ay,by_,hy,RoundIn.C7W rfl (RoundIn.mono hR ?_)⟩;rintro e W2 (⟨rfl,E2,hJ2,hP2⟩ | ⟨rfl,hx⟩)
        ·have K2:=aa.C7C hP2 (hf _ _ _ hJ1);have hb:=K2.blk W.heap.size (by simp) ho;rw[World.alloc_heap_new]at hb;refine .inl ⟨rfl,E2,hJ2,K1.trans K2,hb,?_⟩;simp[World.cell?,hb.1]
        ·exact .inr ⟨rfl,hx⟩
       obtain⟨fy,ty,ay,by_,hy,hR⟩:=key 80;refine callsIn_of_wp Tryz.func194 rfl trivial ?_;simp only[Tryz.ntmps194,zAq,zaq,zbq,Nat.reduceAdd,Nat.reduceSub,zoq,zpq,zBq,zqq,zMq,zEq]
       gi_wp2_with ((try refine⟨UQ _,?_⟩);refine hR.mono ?_;clear hR;rintro e W2 (⟨rfl,E2,hJ2,hK2,TU,hc2⟩ | ⟨rfl,hx2⟩))
       ·-- the D6, one by one
        refine wpIn_loop_rounds (kds.length+1) ?_;refine(?loop:∀(r i:Nat)(pre rs:List DV)(E3:Env)(w:World)(x6 x15 x16 x17 x18 x19 x20 x21 x22:Value),i+r=kds.length->Mw (CY 7 6 m) (kds.drop i)=some rs->ks=pre++rs->J (k+1+pre.length) E3 w->aa E W E3 w->
         Code.roundsIn Fence.wide n Tryz.prog _ _ (r+1) { tmps := #[.agg #[v0,v1,v2,v3,v4,v5,.slice ka kds.length cap],.func (.yield l) #[] #[],.pointer (some { block:=W.heap.size,off:=0 }),undef,.bool false,undef,x6,.func (.yield l) #[] #[],.agg #[v0,v1,v2,v3,v4,v5,.slice ka kds.length cap],.bool true,.bool false,.pointer (some { block:=W.heap.size,off:=6 }),.slice ka kds.length cap,.int .i64 (kds.length:Int),.int .i64 (i:Int),x15,x16,x17,x18,x19,x20,x21,x22],defers:=[] } w)
         kds.length 0 [] ks E2 W2 undef undef undef undef undef undef undef undef undef (by simp) h3 rfl hJ2 hK2
        clear hJ2 hK2 TU hc2 hy key hJ;intro r;induction r with
        |zero=>
          intro i pre rs E3 w x6 x15 x16 x17 x18 x19 x20 x21 x22 hi hrs Ny hJ3 hK3;have hi':i=kds.length:=by omega
          have C8x:(i:Int)=(kds.length:Int):=by omega
          rw[roundsIn_succ];rw[C8x];have P8:¬((kds.length:Int)<(kds.length:Int)):=by omega
          gi_wp2
          go_ret
          rw[hi',List.drop_length,Mw]at hrs;simp only[D9]at hrs;subst hrs;refine .inl ⟨rfl,E3,?_,hK3⟩;rw[show k+(pre.length+([]:List DV).length+1)=k+1+pre.length by simp;omega];exact hJ3
        |succ r ihr=>
          intro i pre rs E3 w x6 x15 x16 x17 x18 x19 x20 x21 x22 hi hrs Ny hJ3 hK3;rw[roundsIn_succ];have P8:((i:Int)<(kds.length:Int)):=by omega
          have hil:i<kds.length:=by omega
          obtain⟨xa,rfl⟩:∃xa,ka=some xa:=by
           cases ka with
           |none=>have:=h7 rfl;omega
           |some xa=>exact⟨xa,rfl⟩
          obtain⟨Xx,UM⟩:=h9 xa rfl;obtain⟨xb,xo,xs⟩:=xa;have Xx:=Xx (by omega);simp only at Xx UM;subst Xx;obtain⟨us,hu1,hu2,hu3⟩:=FL.1 UM i _ (z1q hil);have hu4:=hu2.mono hK3.sh
          match us,hu1 with
          |[u0,u1,u2,u3,u4,u5,u6],_=>
          have cc:∀(j:Nat)(u:Value),[u0,u1,u2,u3,u4,u5,u6][j]?=some u->w.cell? ⟨xb,xo+i * 7+j,none⟩=some u:=λj u hj=>by rw[Vz];exact(hu4 j u hj).1
          have c0:w.cell? ⟨xb,xo+i * 7,none⟩=some u0:=cc 0 u0 rfl;have c1:=cc 1 u1 rfl;have c2:=cc 2 u2 rfl;have c3:=cc 3 u3 rfl;have c4:=cc 4 u4 rfl;have c5:=cc 5 u5 rfl;have c6:=cc 6 u6 rfl;have ou:∀(j:Nat)(u:Value),[u0,u1,u2,u3,u4,u5,u6][j]?=some u->u.oneCell'=true:=λj u hj=>(Sc hu3 hj).elim λh1 h2=>Lu h1 h2;have e0:u0.oneCell'=true:=ou 0 u0 rfl;have e1:u1.oneCell'=true:=ou 1 u1 rfl;have e2:u2.oneCell'=true:=ou 2 u2 rfl;have e3:u3.oneCell'=true:=ou 3 u3 rfl;have e4:u4.oneCell'=true:=ou 4 u4 rfl;have e5:u5.oneCell'=true:=ou 5 u5 rfl;have e6:u6.oneCell'=true:=ou 6 u6 rfl;obtain⟨w1,s0,b0,r0,z0,o0⟩:=Ro (P:=Tryz.prog) (j:=0) (World.alloc_heap_new w (.cells #[.int .i64 0,.int .i64 0,.int .i64 0,.string ⟨#[]⟩,.int .i64 0,.string ⟨#[]⟩,.slice none 0 0] 80)) (by simp) e0;obtain⟨w2,s1,b1,r1,z1,o1⟩:=Ro (P:=Tryz.prog) (j:=1) b0 (by simp) e1;obtain⟨w3,s2,b2,r2,z2,o2⟩:=Ro (P:=Tryz.prog) (j:=2) b1 (by simp) e2;obtain⟨w4,s3,b3,r3,z3,o3⟩:=Ro (P:=Tryz.prog) (j:=3) b2 (by simp) e3;obtain⟨w5,s4,b4,r4,z4,o4⟩:=Ro (P:=Tryz.prog) (j:=4) b3 (by simp) e4;obtain⟨w6,s5,b5,r5,z5,o5⟩:=Ro (P:=Tryz.prog) (j:=5) b4 (by simp) e5;obtain⟨w7,s6,b6,r6,z6,o6⟩:=Ro (P:=Tryz.prog) (j:=6) b5 (by simp) e6;simp only[List.setIfInBounds_toArray,List.set_cons_zero,List.set_cons_succ]at b0 b1 b2 b3 b4 b5 b6;have dd:∀(j:Nat)(u:Value),[u0,u1,u2,u3,u4,u5,u6][j]?=some u->w7.cell? ⟨w.heap.size,j,none⟩=some u:=λj u hj=>by rw[Vz];simp only[hc,b6];simpa using hj
          have d0:=dd 0 u0 rfl;have d1:=dd 1 u1 rfl;have d2:=dd 2 u2 rfl;have d3:=dd 3 u3 rfl;have d4:=dd 4 u4 rfl;have d5:=dd 5 u5 rfl;have d6:=dd 6 u6 rfl;have low:∀b,b<w.heap.size->w7.heap[b]?=w.heap[b]?:=λb hb=>by rw[r6 b (by omega),r5 b (by omega),r4 b (by omega),r3 b (by omega),r2 b (by omega),r1 b (by omega),r0 b (by omega)];exact Below.heap_alloc _ _ _ hb
          have hz:w.heap.size<=w7.heap.size:=by rw[z6,z5,z4,z3,z2,z1,z0];simp
          have lh:W9 w w7:=W9.trans (b:=w1) (W9.trans (b:=w.alloc (.cells #[.int .i64 0,.int .i64 0,.int .i64 0,.string ⟨#[]⟩,.int .i64 0,.string ⟨#[]⟩,.slice none 0 0] 80)) ⟨rfl,rfl,rfl⟩ o0) ((((((o1).trans o2).trans o3).trans o4).trans o5).trans o6);have hfr:=hf _ _ _ hJ3;have K7:aa E3 w E3 w7:=aa.same hz low hfr;have hJ7:=hI _ _ _ _ hJ3 (Wn.same hz low lh);rw[ztq hil,Mw]at hrs;obtain⟨sa,hsa,hrs⟩:=D8 hrs;obtain⟨sb,hsb,hrs⟩:=D8 hrs;simp only[D9]at hrs;subst hrs;have C8r:Fence.wide.fn 194:=trivial;have C2S:CallsIn Fence.wide (n-1) Tryz.prog 194 _ w7 _:=callsIn_wide.2 (callsIn_wide.1 (ih _ sa hsa (k+1+pre.length) E3 w7 (.agg #[u0,u1,u2,u3,u4,u5,u6]) hJ7 (RV.mono (hK3.trans K7).sh _ (flat_agg hsa hu3)) (C3C Qa Ny) (by have:=hK3.size;omega)));clear ih
          gi_wp2_with ((try refine⟨UQ _,?_⟩);gi_at_call 194;refine C2S.mono ?_;clear C2S;rintro e wz (⟨rfl,E4,hJ4,hK4⟩ | ⟨rfl,hx⟩))
          ·rw[show wrap64 ((i:Int)+1)=((i+1:Nat):Int)by unfold J9 at lY;rw[wrap64];omega];exact ihr (i+1) (pre++sa) sb E4 wz _ _ _ _ _ _ _ _ _ (by omega) hsb (by rw[Ny,zzq]) (by rw[zeq,<- Nat.add_assoc];exact hJ4) ((hK3.trans K7).trans hK4)
          ·go_ret
           exact .inr ⟨rfl,hx⟩
       ·go_ret
        exact .inr ⟨rfl,hx2⟩
     |_=>rw[hk]at Nc;simp at Nc
   |_=>simp[CY]at Nc
set_option maxHeartbeats 1000000 in
theorem C3L:B3a Tryz.prog 193 (VH 7 6):=by
 intro cs ds pI n l b c T0 J Jx E W hb ho hR hf hI hY h0;obtain⟨m,hm⟩:=xZ pI;have Bl:cs.length=7:=by
  cases m with
  |zero=>simp[CY]at hm
  |succ m=>rw[CY]at hm;obtain⟨h1,-⟩:=I9 hm;simpa using h1
 have hlc:=(Gr.1 hR).1;obtain⟨l',rfl⟩:∃l':List Value,c=l'.toArray:=⟨c.toList,by simp⟩;simp only at hR hlc
 match l',hlc.symm.trans Bl with
 |[v0,v1,v2,v3,v4,v5,v6],_=>
 have cc:∀(j:Nat)(u:Value),[v0,v1,v2,v3,v4,v5,v6][j]?=some u->W.cell? ⟨b,j,none⟩=some u:=λj u hj=>by rw[Vz];simp only[hc,hb];simpa using hj
 have c0:=cc 0 v0 rfl;have c1:=cc 1 v1 rfl;have c2:=cc 2 v2 rfl;have c3:=cc 3 v3 rfl;have c4:=cc 4 v4 rfl;have c5:=cc 5 v5 rfl;have c6:=cc 6 v6 rfl;have hgo:CallsIn Fence.wide (n-1) Tryz.prog 194 _ W _:=callsIn_wide.2 (callsIn_wide.1 (C3H l W.heap.size ds J Jx n hf hI hY m (.agg cs) ds hm 0 E W (.agg #[v0,v1,v2,v3,v4,v5,v6]) h0 (by simp only[RV];exact⟨_,rfl,hR⟩) (λj x h=>by rw[zFq];exact h) (Nat.le_refl _)));have C8r:Fence.wide.fn 194:=trivial;have UQ:∀k:Nat,(Fence.wide.depth.isSome=true->1<=k):=λk h=>by cases h
 refine callsIn_of_wp Tryz.func193 rfl trivial ?_;simp only[Tryz.ntmps193,zAq,zaq,zbq,Nat.reduceAdd,Nat.reduceSub,zoq,zpq,zBq,zqq,zMq,zEq]
 gi_wp2_with ((try refine⟨UQ _,?_⟩);gi_at_call 194;refine hgo.mono ?_;clear hgo;rintro e w2 (⟨rfl,E4,hJ4,-⟩ | ⟨rfl,hx⟩))
 ·go_end0
  exact⟨⟨_,rfl⟩,.inl ⟨E4,by simpa using hJ4⟩⟩
 ·go_end0
  exact⟨⟨_,rfl⟩,.inr hx⟩
def C64:ClP where
 i0:=0
 i1:=1
 i2:=2
 i3:=3
 r0:=(Hy (Tryz.f61.body.getD .skip) [false] 0)
 r1:=(Hy (Tryz.f61.body.getD .skip) [true,false,false] 0)
 r2:=(Hy (Tryz.f61.body.getD .skip) [true,false,false] 1)
 r3:=(Hy (Tryz.f61.body.getD .skip) [true,false,true,false,false] 0)
 r4:=(Hy (Tryz.f61.body.getD .skip) [true,true,false] 0)
 r5:=(Hy (Tryz.f61.body.getD .skip) [true,true,false] 1)
 r6:=(Hy (Tryz.f61.body.getD .skip) [true,true,false] 2)
 r7:=(Hy (Tryz.f61.body.getD .skip) [true,true,false] 3)
 ts:=29
 ty:=C2H (Tryz.f61.body.getD .skip) [true,false,false] 1
theorem C1d:iV Tryz.prog 61 20:=A6U (q:=C64) (by kernel_rfl) Tryz.func61 (by kernel_rfl) (by kernel_rfl) (by kernel_rfl)
def C5g:ClP where
 i0:=0
 i1:=1
 i2:=2
 i3:=3
 r0:=(Hy (Tryz.f186.body.getD .skip) [false] 0)
 r1:=(Hy (Tryz.f186.body.getD .skip) [true,false,false] 0)
 r2:=(Hy (Tryz.f186.body.getD .skip) [true,false,false] 1)
 r3:=(Hy (Tryz.f186.body.getD .skip) [true,false,true,false,false] 0)
 r4:=(Hy (Tryz.f186.body.getD .skip) [true,true,false] 0)
 r5:=(Hy (Tryz.f186.body.getD .skip) [true,true,false] 1)
 r6:=(Hy (Tryz.f186.body.getD .skip) [true,true,false] 2)
 r7:=(Hy (Tryz.f186.body.getD .skip) [true,true,false] 3)
 ts:=25
 ty:=C2H (Tryz.f186.body.getD .skip) [true,false,false] 1
theorem B9i:iV Tryz.prog 186 3:=A6U (q:=C5g) (by kernel_rfl) Tryz.func186 (by kernel_rfl) (by kernel_rfl) (by kernel_rfl)
def C5h:ClP where
 i0:=0
 i1:=1
 i2:=2
 i3:=3
 r0:=(Hy (Tryz.f200.body.getD .skip) [false] 0)
 r1:=(Hy (Tryz.f200.body.getD .skip) [true,false,false] 0)
 r2:=(Hy (Tryz.f200.body.getD .skip) [true,false,false] 1)
 r3:=(Hy (Tryz.f200.body.getD .skip) [true,false,true,false,false] 0)
 r4:=(Hy (Tryz.f200.body.getD .skip) [true,true,false] 0)
 r5:=(Hy (Tryz.f200.body.getD .skip) [true,true,false] 1)
 r6:=(Hy (Tryz.f200.body.getD .skip) [true,true,false] 2)
 r7:=(Hy (Tryz.f200.body.getD .skip) [true,true,false] 3)
 ts:=151
 ty:=C2H (Tryz.f200.body.getD .skip) [true,false,false] 1
theorem B9j:iV Tryz.prog 200 4:=A6U (q:=C5h) (by kernel_rfl) Tryz.func200 (by kernel_rfl) (by kernel_rfl) (by kernel_rfl)
end
end Go.Su

/-
 A map's keys, collected and sorted: the program's code and the library's sort keep their word.
-/
namespace Go.Su
open Go.Proofs Go.RowKit Go.Shelf
def C4y:Ren where
 f x:=match x with
   |190=>106
   |125=>135
   |258=>134
   |128=>165
   |129=>166
   |302=>156
   |303=>157
   |304=>158
   |305=>159
   |306=>160
   |307=>161
   |308=>162
   |309=>163
   |310=>164
   |333=>180
   |329=>181
   |330=>182
   |334=>183
   |335=>184
   |336=>185
   |344=>198
   |n=>n
 t x:=match x with
   |31=>34
   |9=>9
   |3=>3
   |46=>59
   |0=>0
   |51=>204
   |53=>206
   |4=>4
   |183=>197
   |182=>196
   |131=>185
   |5=>5
   |218=>213
   |222=>217
   |228=>223
   |229=>224
   |n=>n
 g x:=x
theorem C2p:Lays.n190 Tryz.prog C4y where
 mixed:=by kernel_rfl
 f125:=Tryz.func135.trans (by kernel_rfl)
 f128:=Tryz.func165.trans (by kernel_rfl)
 f129:=Tryz.func166.trans (by kernel_rfl)
 f190:=Tryz.func106.trans (by kernel_rfl)
 f258:=Tryz.func134.trans (by kernel_rfl)
 f302:=Tryz.func156.trans (by kernel_rfl)
 f303:=Tryz.func157.trans (by kernel_rfl)
 f304:=Tryz.func158.trans (by kernel_rfl)
 f305:=Tryz.func159.trans (by kernel_rfl)
 f306:=Tryz.func160.trans (by kernel_rfl)
 f307:=Tryz.func161.trans (by kernel_rfl)
 f308:=Tryz.func162.trans (by kernel_rfl)
 f309:=Tryz.func163.trans (by kernel_rfl)
 f310:=Tryz.func164.trans (by kernel_rfl)
 f329:=Tryz.func181.trans (by kernel_rfl)
 f330:=Tryz.func182.trans (by kernel_rfl)
 f333:=Tryz.func180.trans (by kernel_rfl)
 f334:=Tryz.func183.trans (by kernel_rfl)
 f335:=Tryz.func184.trans (by kernel_rfl)
 f336:=Tryz.func185.trans (by kernel_rfl)
 f344:=Tryz.func198.trans (by kernel_rfl)
 t0:=Tryz.underlying0
 a0:=Tryz.isAgg0
 z0:=Tryz.sizeOf0
 v0:=Tryz.zeroValue0
 t3:=Tryz.underlying3
 a3:=Tryz.isAgg3
 z3:=Tryz.sizeOf3
 v3:=Tryz.zeroValue3
 t4:=Tryz.underlying4
 a4:=Tryz.isAgg4
 z4:=Tryz.sizeOf4
 v4:=Tryz.zeroValue4
 t5:=Tryz.underlying5
 a5:=Tryz.isAgg5
 z5:=Tryz.sizeOf5
 v5:=Tryz.zeroValue5
 t9:=Tryz.underlying9
 a9:=Tryz.isAgg9
 z9:=Tryz.sizeOf9
 v9:=Tryz.zeroValue9
 t31:=Tryz.underlying34
 a31:=Tryz.isAgg34
 z31:=Tryz.sizeOf34
 v31:=Tryz.zeroValue34
 t46:=Tryz.underlying59
 a46:=Tryz.isAgg59
 z46:=Tryz.sizeOf59
 v46:=Tryz.zeroValue59
 t51:=Tryz.underlying204
 a51:=Tryz.isAgg204
 z51:=Tryz.sizeOf204
 v51:=Tryz.zeroValue204
 t53:=Tryz.underlying206
 a53:=Tryz.isAgg206
 z53:=Tryz.sizeOf206
 v53:=Tryz.zeroValue206
 t131:=Tryz.underlying185
 a131:=Tryz.isAgg185
 z131:=Tryz.sizeOf185
 v131:=Tryz.zeroValue185
 t182:=Tryz.underlying196
 a182:=Tryz.isAgg196
 z182:=Tryz.sizeOf196
 v182:=Tryz.zeroValue196
 t183:=Tryz.underlying197
 a183:=Tryz.isAgg197
 z183:=Tryz.sizeOf197
 v183:=Tryz.zeroValue197
 t218:=Tryz.underlying213
 a218:=Tryz.isAgg213
 z218:=Tryz.sizeOf213
 v218:=Tryz.zeroValue213
 t222:=Tryz.underlying217
 a222:=Tryz.isAgg217
 z222:=Tryz.sizeOf217
 v222:=Tryz.zeroValue217
 t228:=Tryz.underlying223
 a228:=Tryz.isAgg223
 z228:=Tryz.sizeOf223
 v228:=Tryz.zeroValue223
 t229:=Tryz.underlying224
 a229:=Tryz.isAgg224
 z229:=Tryz.sizeOf224
 v229:=Tryz.zeroValue224
theorem C52:Lib.len8 0=0:=by kernel_rfl
variable (w:World)
theorem C3S:Calls Tryz.prog 166 #[.int .u64 0] w λe w'=>e=.returned (.int .i64 0)/\w'=w:=by
 go_enter Tryz.func166,Tryz.ntmps166
 go_wp2
 go_ret
 exact⟨congrArg Ending.returned (show Value.int .i64 (wrap64 (wrap64 (Lib.len8 0)))=.int .i64 0 by rw[C52];simp[wrap64]),rfl⟩
theorem C7x:Calls Tryz.prog 135 #[.int .u64 0] w λe w'=>e=.returned (.int .i64 0)/\w'=w:=by
 go_enter Tryz.func135,Tryz.ntmps135
 go_wp2_with (go_at_call 166;refine(C3S _).mono ?_;rintro e w1 ⟨rfl,rfl⟩)
 go_ret
 exact⟨rfl,rfl⟩
variable (p:Option Addr)(cap:Nat)
theorem C7u(w:World):Calls Tryz.prog 156 #[.slice p 0 cap,.int .i64 0,.int .i64 0] w λe w'=>e=.returned (.tuple #[])/\w'=w:=by
 go_enter Tryz.func156,Tryz.ntmps156
 go_wp2
 refine wp_loop (λa' w'=>a'=_/\w'=_) (λ_ _=>0) ⟨rfl,rfl⟩ ?_;rintro _ _ ⟨rfl,rfl⟩
 go_wp2
 go_returns
 exact⟨rfl,rfl⟩
theorem C7H(w:World):Calls Tryz.prog 134 #[.slice p 0 cap,.int .i64 0,.int .i64 0,.int .i64 0] w λe w'=>e=.returned (.tuple #[])/\w'=w:=by
 go_enter Tryz.func134,Tryz.ntmps134
 go_wp2
 refine wp_loop (λa' w'=>a'=_/\w'=_) (λ_ _=>0) ⟨rfl,rfl⟩ ?_;rintro _ _ ⟨rfl,rfl⟩
 go_wp2_with (go_at_call 156;refine(C7u _ _ _).mono ?_;rintro e w1 ⟨rfl,rfl⟩)
 go_returns
 exact⟨rfl,rfl⟩
theorem C6J(w:World):Calls Tryz.prog 106 #[.slice p 0 cap] w λe w'=>e=.returned (.tuple #[])/\w'=w:=by
 go_enter Tryz.func106,Tryz.ntmps106
 go_wp2_with (first | (go_at_call 135;refine(C7x _).mono ?_;rintro e w1 ⟨rfl,rfl⟩) | (go_at_call 134;refine(C7H _ _ _).mono ?_;rintro e w1 ⟨rfl,rfl⟩))
 go_returns
 exact⟨rfl,rfl⟩
theorem A85:KP.Ok Tryz.prog RS where
 nodup:=by decide
 hm:=by kernel_rfl
 hs:=by kernel_rfl
 info:=⟨Tryz.t9,.string ⟨#[]⟩,by kernel_rfl,by kernel_rfl,by kernel_rfl,by kernel_rfl,by kernel_rfl⟩
 go:=by kernel_rfl
 sort blk off cap ss w h1 h2 h3:=Any.slices_Sort_string C2p blk off cap ss w h1 h2 h3
 C3j p cap w:=C6J p cap w
theorem A6V:A7u Tryz.prog Z7 Gv :=⟨RS.code Gv.post,by kernel_rfl,λ_=>by kernel_rfl,λR H K=>C3O A85 R H K⟩
end Go.Su

/-
 The settings are right.
-/
namespace Go.Su
open Go.Proofs
theorem C10:Tryz.prog.funcs.toList.all (λfn=>fn.name != "runtime.NumGoroutine")=true:=by kernel_rfl
theorem A87{β : Type}{l:List (FuncId×β)}{f:FuncId}{g : β}(h:l.lookup f=some g):(f,g)∈l:=by
 induction l with
 |nil=>cases h
 |cons x l ih=>
   obtain⟨a,b⟩:=x;simp only[List.lookup_cons]at h;by_cases e:f==a
   ·rw[e]at h;simp only[D9]at h;rw[h];rw[eq_of_beq e];exact z5q ..
   ·simp only[e]at h;exact z3q _ (ih h)
theorem C5e:A7t cfg where
 mixed:=by kernel_rfl
 go f fn h:=by
  have h1:fn∈Tryz.prog.funcs.toList:=by have:Tryz.prog.funcs[f]?=some fn:=h;rw[<- Array.getElem?_toList]at this;exact zfq this
  have:=z6q.1 C10 fn h1;simpa using this
 eZ f g h fn c hf hb:=by
  have h1:(f,g)∈B8k:=A87 h;simp only[B8k,zdq,zlq,or_false,Prod.mk.injEq]at h1;obtain⟨rfl,rfl⟩:=h1
  ·have e1:Tryz.prog.funcs[(58:Nat)]?=some fn:=hf;rw[Tryz.func58]at e1;simp only[D9]at e1;subst e1;have e2:Tryz.f58.body=some Z7:=by kernel_rfl
   rw[e2]at hb;simp only[D9]at hb;subst hb;exact A6V
 clone f h:=by
  have h0:clL.contains f=true:=h;have h1:f∈clL:=by simpa using h0
  simp only[clL,zdq,zlq,or_false]at h1;rcases h1 with rfl | rfl | rfl
  ·exact⟨by kernel_rfl,C1d⟩
  ·exact⟨by kernel_rfl,B9i⟩
  ·exact⟨by kernel_rfl,B9j⟩
 pV f g h:=by
  have h1:(f,g)∈mkL:=A87 h;simp only[mkL,zdq,zlq,or_false,Prod.mk.injEq]at h1;rcases h1 with⟨rfl,rfl⟩
  ·exact⟨by kernel_rfl,C3W⟩
 iter g it h:=by
  have h1:itF g=some it:=h;unfold itF at h1;split at h1
  ·rename_i e;subst e;cases h1;exact⟨by kernel_rfl,C3L⟩
  ·cases h1
end Go.Su

/-
 Equations of the program's functions: by program.
-/
namespace Go.Su
set_option linter.defProp false
set_option maxRecDepth 100000
noncomputable section
open Go.Proofs
open Tryz
variable (R: U1)(i j k l m n: Nat)(a b c d e f g h o p q r t u v w x y z A B C D E F G H I J K L M N O P Q S T U V W X Y Z a1 a2 a3 a4 a5 a6 a7 a8 a9 a10 a11 a12 a13 a14: DV)(s: List H7)
def nR:=eP f4 Ve R [] (I6 f4 [(a,.val),(b,.val)] [])
def Lp:=hP f4 Ve R (pb 506) (ms 105 [(1,a),(7,b)] [] [(2,bx c 20),(5,bx d 3)] [])
def A6Y:nR R a b =
 (og (E5 20 a)<|ob (R.p qM [(.list 20 [(I7 a)])]) λz=>K3 z sT (ob (R.p KC [(I7 a)]) λw=>ob (R8 .not w) λu=>K3 u sT (ob (R.p gK [(I7 a)]) λv=>K3 v sT (ob (R.p Ye [(I7 a)]) λt=>ob (R8 .not t) λs=>K3 s sT (ob (R.p KM [(I7 a),(iI 13)]) λr=>ob (R8 .not r) λq=>F3 q sT (ob (R.p KW [(I7 a)]) λx=>ob (K5 0 x) λy=>ob (K5 1 x) λo=>og (E5 3 y)<|ob (D7 .neq o (iI 0)) λn=>F3 n (ob (R.p IQ []) λm=>some m) (ob (R.p gJ [b,(iI 12)]) λl=>Lp R l (iI 0) a y))) none) none) none) none):=F6 []
def YX:Lp R a b c d =
 (ob (D7 .leq b a) λv=>F3 v (ob (R.p PW [(I7 c)]) λz=>ob (K5 0 z) λy=>ob (K5 1 z) λx=>og (E5 20 y)<|og (E5 15 x)<|ob (R.p Qg [(I7 c)]) λt=>F3 t (ob (D7 .eql (A7 0 x) (iI 1)) λs=>K3 s (ob (R.p WW [(I7 y),(I7 c)]) λr=>K3 r (ob (R.p IQ []) λq=>some q) sF none) sF none) (ob (D7 .neq (A7 0 x) (iI 0)) λo=>F3 o (ob (D7 .eql (A7 0 x) (iI 2)) λn=>K3 n (ob (R.p IQ []) λm=>some m) (ob (D7 .eql (A7 0 x) (iI 3)) λl=>K3 l (ob (R.p IQ []) λk=>some k) (ob (D7 .eql (A7 0 x) (iI 4)) λj=>K3 j (ob (R.p IQ []) λi=>some i) sF none) none) none) (ob (R.p KW [(I7 y)]) λw=>ob (K5 0 w) λu=>ob (K5 1 w) λh=>og (E5 3 u)<|ob (D7 .neq h (iI 0)) λg=>K3 g sF (ob (R.p Zo [(R6 d),(R6 u)]) λf=>ob (R8 .not f) λe=>F3 e sF (ob (R.p gT [(I7 y)]) λX=>
 ob (D7 .gtr X (iI 600)) λY=>F3 Y (ob (R.p IQ []) λZ=>some Z) (ob (D7 .add b (iI 1)) λW=>Lp R a W y d))) none))) (ob (R.p IQ []) λU=>some U)):=J2 []
def A4K:C9.p nN [a,b]=nR C9 a b:=Q0 func4
def A4Y:=eP f5 lF R [] (I6 f5 [(a,.val)] [])
def SI:=hP f5 lF R (pb 58) (ms 19 [(0,a),(3,b),(4,c)] [] [] [])
def A2k:A4Y R a =
 (SI R a (iI 0) (iI 0)):=F6 []
def XP:SI R a b c =
 (ob (L6 a) λx=>ob (D7 .lss c x) λy=>F3 y (ob (F7 20 a c) λz=>ob (R.p PY [(I7 z),b]) λw=>ob (D7 .add c (iI 1)) λu=>SI R a w u) (ob (D7 .gtr b (iI 500)) λv=>some v)):=J2 []
def A0t:C9.p qM [a]=A4Y C9 a:=Q0 func5
def A5d:=eP f6 lM R [] (I6 f6 [(a,.val)] [])
def SQ:=hP f6 lM R (pb 58) (ms 21 [(3,a)] [] [(1,bx b 20)] [])
def A2t:A5d R a =
 (og (E5 20 a)<|ob (R.p A1r [(I7 a)]) λx=>ob (R8 .not x) λy=>F3 y sF (SQ R (iI 0) a)):=F6 []
def XY:SQ R a b =
 (ob (L6 (A7 19 b)) λx=>ob (D7 .lss a x) λy=>F3 y (ob (F7 20 (A7 19 b) a) λz=>ob (R.p KC [(I7 z)]) λw=>ob (R8 .not w) λu=>F3 u sF (ob (D7 .add a (iI 1)) λv=>SQ R v b)) sT):=J2 []
def A0C:C9.p KC [a]=A5d C9 a:=Q0 func6
def A7P:=eP f7 A6m R [] (I6 f7 [(a,.val)] [])
def A5P:A7P R a =
 (og (E5 20 a)<|ob (R.p gV [(I7 a),(.list 1 []),(.list 1 [])]) λx=>some x):=F6 []
def A2Z:C9.p gQ [a]=A7P C9 a:=Q0 func7
def A7A:=eP f8 A6f R [] (I6 f8 [(a,.val),(b,.val)] [])
def A5C:A7A R a b =
 (ob (D7 .lss b (iI 1)) λx=>F3 x (some (iI 0)) (ob (XF .u64 a) λy=>ob (XF .u64 b) λz=>ob (D7 .rem y z) λw=>ob (XF .i64 w) λu=>some u)):=F6 []
def A2L:C9.p gJ [a,b]=A7A C9 a b:=Q0 func8
def sN:=eP f9 Xo R [] (I6 f9 [(a,.val),(b,.val)] [])
def Mr:=hP f9 Xo R (pb 122) (ms 42 [(1,a),(5,b)] [] [(2,bx c 20)] [])
def ME:sN R a b =
 (og (E5 20 a)<|ob (R.p Zu [(I7 a)]) λx=>ob (R8 .not x) λy=>F3 y sF (ob (R.p KC [(I7 a)]) λz=>ob (R8 .not z) λw=>K3 w sT (ob (R.p gQ [(I7 a)]) λu=>ob (L6 u) λv=>ob (D7 .gtr v (iI 0)) λt=>F3 t sT (Mr R b (iI 0) a)) none)):=F6 []
def RB:Mr R a b c =
 (ob (D7 .lss b a) λw=>K3 w (ob (R.p FI [(I7 c)]) λu=>ob (R8 .not u) λv=>F3 v (ob (R.p GR [(I7 c)]) λy=>ob (K5 0 y) λx=>ob (K5 1 y) λz=>og (E5 20 x)<|og (E5 15 z)<|ob (D7 .neq (A7 0 z) (iI 0)) λt=>F3 t sT (ob (R.p Zu [(I7 x)]) λs=>ob (R8 .not s) λr=>F3 r sF (ob (D7 .add b (iI 1)) λq=>Mr R a q x))) sT) sT none):=J2 []
def Km:C9.p KM [a,b]=sN C9 a b:=Q0 func9
def A7w:=eP f10 Pk R [] (I6 f10 [(a,.val),(b,.val)] [])
def dG:=hP f10 Pk R (pb 60) (ms 85 [(1,a),(5,b),(6,c)] [] [(2,bv [d,e,f,g,h,o,p,q,r,t,u,v,w,x,y,z,A,B,C,D]),(4,some Ck)] [])
def jK:=eP f10 Pk R (pb 241) (ms 85 [(1,a),(5,b),(6,c)] [] [(2,bv [d,e,f,g,h,o,p,q,r,t,u,v,w,x,y,z,A,B,C,D]),(4,some Ck)] [])
def Yf:=hP f10 Pk R (pb 252) (ms 85 [(1,a),(6,b)] [(9,(.ptr 1 0))] [(4,some Ck)] s)
def dF:=eP f10 Pk R (pb 7719) (ms 85 [(1,a),(5,b),(6,c)] [] [(2,bv [d,e,f,g,h,o,p,q,r,t,u,v,w,x,y,z,A,B,C,D]),(4,some Ck),(7,bv [E,F,G,H,I,J,K,L,M,N,O,P,Q,S,T,U,V,W,X,Y]),(8,bv [Z,a1,a2,a3,a4,a5,a6,a7,a8,a9,a10,a11,a12,a13,a14])] [])
def B5A:A7w R a b =
 (og (E5 20 a)<|ob (jm b (iI 0)) λx=>ob (jo x (iI 65536)) λy=>ob (R.p La [(I7 a)]) λz=>dG R y z (iI 0) (A7 0 a) (A7 1 a) (A7 2 a) (A7 3 a) (A7 4 a) (A7 5 a) (A7 6 a) (A7 7 a) (A7 8 a) (A7 9 a) (A7 10 a) (A7 11 a) (A7 12 a) (A7 13 a) (A7 14 a) (A7 15 a) (A7 16 a) (A7 17 a) (A7 18 a) (A7 19 a)):=F6 [5,10]
def A92:dG R a b c d e f g h o p q r t u v w x y z A B C D =
 (ob (R8 .not b) λs=>K3 s (jK R a b c d e f g h o p q r t u v w x y z A B C D) (ob (R.p Dv [(.agg [d,e,f,g,h,o,p,q,r,t,u,v,w,x,y,z,A,B,C,D])]) λn=>ob (R8 .not n) λm=>F3 m (jK R a b c d e f g h o p q r t u v w x y z A B C D) (Yf R a c [H7.BF 1 20 [(.agg [d,e,f,g,h,o,p,q,r,t,u,v,w,x,y,z,A,B,C,D])],H7.box [(.undef,(.BF 0 1 20 1)),((.list 9 []),.full)]])) none):=J2 [5,10]
def B2a:jK R a b c d e f g h o p q r t u v w x y z A B C D =
 (ob (D7 .eql c a) λl=>F3 l (og (J7 c)<|some (.agg ((iI 5)::(qI [(iI 0),(.bool false),(iI 0),(iI 0),c])))) (F3 b (ob (R.p DN [(.agg [d,e,f,g,h,o,p,q,r,t,u,v,w,x,y,z,A,B,C,D])]) λm=>ob (K5 0 m) λs=>ob (K5 1 m) λn=>og (E5 20 s)<|og (E5 15 n)<|dF R a b c d e f g h o p q r t u v w x y z A B C D (A7 0 s) (A7 1 s) (A7 2 s) (A7 3 s) (A7 4 s) (A7 5 s) (A7 6 s) (A7 7 s) (A7 8 s) (A7 9 s) (A7 10 s) (A7 11 s) (A7 12 s) (A7 13 s) (A7 14 s) (A7 15 s) (A7 16 s) (A7 17 s) (A7 18 s) (A7 19 s) (A7 0 n) (A7 1 n) (A7 2 n) (A7 3 n) (A7 4 n) (A7 5 n) (A7 6 n) (A7 7 n) (A7 8 n) (A7 9 n) (A7 10 n) (A7 11 n) (A7 12 n) (A7 13 n) (A7 14 n)) (dF R a b c d e f g h o p q r t u v w x y z A B C D (iI 0) (iI 0) (iI 0) (.str ⟨#[]⟩) (.str ⟨#[]⟩) (iI 0) (.str ⟨#[]⟩) (iI 0) (iI 0) (.bool false) (.list 1 []) (iI 0) (iI 0) (.list 3 []) (iI 0) (iI 0) (.list 3 []) (.list 3 []) (.list 7 []) (.list 20 []) (iI 6) (iI 0) (iI 0) (.str ⟨#[]⟩) (iI 0) (iI 0) (iI 0) (.bool false) (.list 5 []) (.list 9 []) (iI 0) (.bool false) (iI 0) (iI 0) (iI 0)))):=F6 [5,10]
def A8w:Yf R a b s =
 (ob (Q7 s 1) λc1=>ob (iR s 1 0 c1 20) λv2=>ob (B0F v2.2.2.2) λw=>ob (D7 .gtr w (iI 0)) λu=>F3 u (ob (D7 .eql b a) λv=>F3 v (og (J7 b)<|some (.agg ((iI 5)::(qI [(iI 0),(.bool false),(iI 0),(iI 0),b])))) (oc (R.r YS [(pt 1)] v2.1) λq6 s6=>og (E5 15 q6)<|ob (D7 .neq (A7 0 q6) (iI 0)) λt=>F3 t (ob (D7 .add b (iI 1)) λy=>og (J7 y)<|some (.agg [(A7 0 q6),(A7 1 q6),(A7 2 q6),(A7 3 q6),(A7 4 q6),(A7 5 q6),(A7 6 q6),(A7 7 q6),(A7 8 q6),(A7 9 q6),(A7 10 q6),(A7 11 q6),(A7 12 q6),(A7 13 q6),y])) (ob (D7 .add b (iI 1)) λq=>Yf R a q s6))) (ob (Q7 v2.1 1) λc10=>
 ob (Y5 c10 1) λo=>ob (R.p A4M [o]) λz=>ob (K5 0 z) λx=>ob (K5 1 z) λn=>og (E5 9 x)<|og (J7 b)<|some (.agg [(iI 1),(A7 0 x),(A7 1 x),(A7 2 x),(A7 3 x),(A7 4 x),(A7 5 x),(A7 6 x),(A7 7 x),(A7 8 x),(iI 0),(.bool false),(iI 0),(iI 0),b]))):=J2 [5,10]
def A91:dF R a b c d e f g h o p q r t u v w x y z A B C D E F G H I J K L M N O P Q S T U V W X Y Z a1 a2 a3 a4 a5 a6 a7 a8 a9 a10 a11 a12 a13 a14 =
 (ob (D7 .neq Z (iI 0)) λn=>F3 n (ob (D7 .add c (iI 1)) λs=>og (J7 s)<|some (.agg [Z,a1,a2,a3,a4,a5,a6,a7,a8,a9,a10,a11,a12,a13,s])) (ob (D7 .add c (iI 1)) λm=>dG R a b m E F G H I J K L M N O P Q S T U V W X Y)):=F6 [5,10]
def B3K:C9.p A7v [a,b]=A7w C9 a b:=Q0 func10
def A41:=eP f11 lG R [] (I6 f11 [] [])
def zD:=eP f11 lG R (pb 63) (ms 75 [] [] [(1,bx a 20),(2,bx b 20),(3,bx c 15),(5,bx d 15),(6,bx e 15)] [])
def B3C:A41 R =
 (ob (R.p aX [(iI 5)]) λq=>ob (R.p WS [(iI 1),(iI 5),(iI 1),q]) λx=>og (E5 20 x)<|ob (R.p WS [(iI 5),(iI 1),(iI 2),(I7 x)]) λo=>ob (R.p PW [o]) λy=>ob (K5 0 y) λz=>ob (K5 1 y) λw=>og (E5 20 z)<|og (E5 15 w)<|ob (R.p WS [(iI 5),(iI 2),(iI 3),(I7 x)]) λn=>ob (R.p PW [n]) λu=>ob (K5 0 u) λm=>ob (K5 1 u) λv=>og (E5 20 m)<|og (E5 15 v)<|ob (R.p aX [(iI 5)]) λt=>ob (R.p aX [(iI 7)]) λs=>og (E5 20 t)<|og (E5 20 s)<|ob (R.p A7v [(.agg ((iI 15)::(Qe ((iI 0)::(.str ⟨#[]⟩)::(iI 2)::(Ue [(.list 20 [t,s])]))))),(iI 10)]) λr=>og (E5 15 r)<|zD R x z w v r):=F6 [5]
def A93:zD R a b c d e =
 (ob (R.p Qg [(I7 a)]) λx=>K3 x (ob (R.p aX [(iI 5)]) λy=>ob (R.p WS [(iI 1),(iI 1),(iI 1),y]) λz=>ob (R.p Qg [z]) λw=>ob (R8 .not w) λu=>K3 u (ob (D7 .eql (A7 0 b) (iI 2)) λv=>K3 v (ob (D7 .eql (A7 5 b) (iI 5)) λt=>K3 t (ob (D7 .eql (A7 0 c) (iI 0)) λs=>K3 s (ob (D7 .eql (A7 0 d) (iI 2)) λr=>K3 r (ob (D7 .eql (A7 10 d) (iI 3)) λq=>K3 q (ob (D7 .eql (A7 0 e) (iI 1)) λo=>K3 o (ob (D7 .eql (A7 2 e) (.int .i64 (-2))) λn=>K3 n (ob (D7 .eql (A7 14 e) (iI 2)) λm=>some m) sF none) sF none) sF none) sF none) sF none) sF none) sF none) sF none) sF none):=F6 [5]
def B2i:C9.p IQ []=A41 C9:=Q0 func11
def A1t:=eP f12 A0N R [] (I6 f12 [(a,.val)] [])
def zU:A1t R a =
 (og (E5 20 a)<|ob (R.p La [(I7 a)]) λx=>K3 x (ob (R.p Dv [(I7 a)]) λy=>some y) sF none):=F6 []
def uS:C9.p Qg [a]=A1t C9 a:=Q0 func12
def A4N:=eP f13 A3d R [] (I6 f13 [(a,.val)] [])
def jr:A4N R a =
 (og (E5 20 a)<|ob (R.p La [(I7 a)]) λw=>ob (R8 .not w) λu=>F3 u (some (.I4 [(.agg ((iI 0)::(EX []))),(.agg ((iI 6)::(Dk [])))])) (ob (R.p Dv [(I7 a)]) λv=>F3 v (some (.I4 [(I7 a),(.agg ((iI 1)::(Dk [])))])) (ob (R.p DN [(I7 a)]) λx=>ob (K5 0 x) λy=>ob (K5 1 x) λz=>og (E5 20 y)<|og (E5 15 z)<|some (.I4 [(I7 y),(AO z)])))):=F6 []
def dh:C9.p PW [a]=A4N C9 a:=Q0 func13
end
end Go.Su

/-
 Equations of the program's functions: by program.
-/
namespace Go.Su
set_option linter.defProp false
set_option maxRecDepth 100000
noncomputable section
open Go.Proofs
open Tryz
variable (R: U1)(i j k l m n: Nat)(a b c d e f g h o p q r t u v w x y z L M N O P Q S T U V W X Y Z: DV)(s: List H7)
def A7C:=eP f15 rA R [] (I6 f15 [(a,.val)] [])
def Uh:=hP f15 rA R (pb 58) (ms 21 [(3,a)] [] [(1,bx b 20)] [])
def B5C:A7C R a =
 (og (E5 20 a)<|ob (L6 (A7 10 a)) λx=>ob (D7 .gtr x (iI 0)) λy=>F3 y sT (Uh R (iI 0) a)):=F6 []
def tY:Uh R a b =
 (ob (L6 (A7 19 b)) λx=>ob (D7 .lss a x) λy=>F3 y (ob (F7 20 (A7 19 b) a) λz=>ob (R.p gK [(I7 z)]) λw=>F3 w sT (ob (D7 .add a (iI 1)) λu=>Uh R u b)) sF):=J2 []
def B3M:C9.p gK [a]=A7C C9 a:=Q0 func15
def sK:=eP f16 oo R [] (I6 f16 [(a,.val)] [])
def oD:sK R a =
 (og (E5 20 a)<|ob (R.p KC [(I7 a)]) λx=>ob (R8 .not x) λy=>F3 y sT (oc (R.r gU [(pt 0),((I7 a),.val),((.list 2 []),.val)] [H7.box [((.bool false),.val)]]) λq3 s3=>ob (Q7 s3 0) λc4=>ob (Y5 c4 0) λz=>ob (R8 .not z) λw=>some w)):=F6 []
def kV:C9.p Ye [a]=sK C9 a:=Q0 func16
def A1A:=eP f17 A0R R [] (I6 f17 [(a,.val)] [])
def B2b:A1A R a =
 (og (E5 20 a)<|ob (R.p We [(I7 a)]) λy=>ob (D7 .neq y (iI 0)) λz=>F3 z (some (.I4 [(.agg (Bz [])),(iI 1)])) (ob (R.r Y8 [(.undef,(.map 0)),((I7 a),.val),((.list 5 []),.val)] [.map false []]) λq3=>ob (K5 0 (.I4 q3.1)) λx=>ob (K5 1 (.I4 q3.1)) λw=>og (E5 3 x)<|some (.I4 [(R6 x),w]))):=F6 []
def A98:C9.p KW [a]=A1A C9 a:=Q0 func17
def A7Q:=eP f18 rG R [] (I6 f18 [(a,.val),(b,.val)] [])
def Uq:=hP f18 rG R (pb 58) (ms 38 [(5,a)] [] [(2,bx b 20),(3,bx c 20)] [])
def B5D:A7Q R a b =
 (og (E5 20 a)<|og (E5 20 b)<|ob (R.p WY [(I7 a),(I7 b)]) λx=>ob (R8 .not x) λy=>K3 y sF (ob (L6 (A7 19 a)) λz=>ob (L6 (A7 19 b)) λw=>ob (D7 .neq z w) λu=>F3 u sF (Uq R (iI 0) a b)) none):=F6 []
def uC:Uq R a b c =
 (ob (L6 (A7 19 b)) λx=>ob (D7 .lss a x) λy=>F3 y (ob (F7 20 (A7 19 b) a) λz=>ob (F7 20 (A7 19 c) a) λw=>ob (R.p WW [(I7 z),(I7 w)]) λu=>ob (R8 .not u) λv=>F3 v sF (ob (D7 .add a (iI 1)) λt=>Uq R t b c)) sT):=J2 []
def B3O:C9.p WW [a,b]=A7Q C9 a b:=Q0 func18
def A4U:=eP f19 kz R [] (I6 f19 [(a,.val),(b,.val)] [])
def SG:=hP f19 kz R (pb 58) (ms 46 [(5,a)] [] [(2,bx b 3),(3,bx c 3)] [])
def B3B:A4U R a b =
 (og (E5 3 a)<|og (E5 3 b)<|ob (D7 .neq (A7 0 a) (A7 0 b)) λx=>K3 x sF (ob (D7 .neq (A7 1 a) (A7 1 b)) λy=>K3 y sF (ob (L6 (A7 2 a)) λz=>ob (L6 (A7 2 b)) λw=>ob (D7 .neq z w) λu=>F3 u sF (SG R (iI 0) a b)) none) none):=F6 []
def n_:SG R a b c =
 (ob (L6 (A7 2 b)) λx=>ob (D7 .lss a x) λy=>F3 y (ob (F7 3 (A7 2 b) a) λz=>ob (F7 3 (A7 2 c) a) λw=>ob (R.p Zo [(R6 z),(R6 w)]) λu=>ob (R8 .not u) λv=>F3 v sF (ob (D7 .add a (iI 1)) λt=>SG R t b c)) sT):=J2 []
def B2h:C9.p Zo [a,b]=A4U C9 a b:=Q0 func19
def A7R:=eP f20 rH R [] (I6 f20 [(a,.val)] [])
def Ur:=hP f20 rH R (pb 58) (ms 21 [(3,a),(4,b)] [] [(1,bx c 20)] [])
def B5E:A7R R a =
 (og (E5 20 a)<|Ur R (iI 1) (iI 0) a):=F6 []
def uD:Ur R a b c =
 (ob (L6 (A7 19 c)) λx=>ob (D7 .lss b x) λy=>F3 y (ob (F7 20 (A7 19 c) b) λz=>ob (R.p gT [(I7 z)]) λw=>ob (D7 .add a w) λu=>ob (D7 .add b (iI 1)) λv=>Ur R u v c) (some a)):=J2 []
def B3P:C9.p gT [a]=A7R C9 a:=Q0 func20
def A40:=eP f21 RH R [] (I6 f21 [(a,.val),(b,.val)] [])
def NG:=hP f21 RH R (pb 122) (ms 99 [(1,a),(5,b)] [] [(2,bx c 20)] [])
def JD:=hP f21 RH R (pb 250) (ms 99 [(1,a),(6,b)] [] [(2,bx c 20)] [])
def JE:=hP f21 RH R (pb 506) (ms 99 [(1,a),(7,b)] [] [(2,bx c 20)] [])
def CV:A40 R a b =
 (og (E5 20 a)<|ob (D7 .add b (iI 1)) λx=>ob (L6 (A7 10 a)) λy=>ob (D7 .add x y) λz=>ob (ES (A7 6 a)) λw=>ob (D7 .gtr w (iI 300)) λu=>K3 u (some (iI 501)) (ob (ES (A7 3 a)) λv=>ob (D7 .gtr v (iI 300)) λt=>K3 t (some (iI 501)) (ob (ES (A7 4 a)) λs=>ob (D7 .gtr s (iI 300)) λr=>K3 r (some (iI 501)) (ob (R.p PX [(.agg [(A7 11 a),(A7 12 a),(A7 13 a)])]) λq=>ob (R8 .not q) λo=>K3 o (some (iI 501)) (ob (R.p PX [(.agg [(A7 14 a),(A7 15 a),(A7 16 a)])]) λn=>ob (R8 .not n) λm=>F3 m (some (iI 501)) (NG R z (iI 0) a)) none) none) none) none):=F6 []
def QU:NG R a b c =
 (ob (L6 (A7 17 c)) λx=>ob (D7 .lss b x) λy=>K3 y (ob (D7 .leq a (iI 500)) λz=>F3 z (ob (D7 .add a (iI 1)) λw=>ob (F7 3 (A7 17 c) b) λu=>ob (R.p PX [(R6 u)]) λv=>ob (R8 .not v) λt=>F3 t (some (iI 501)) (ob (D7 .add b (iI 1)) λs=>NG R w s c)) (JD R a (iI 0) c)) (JD R a (iI 0) c) none):=J2 []
def OV:JD R a b c =
 (ob (L6 (A7 18 c)) λx=>ob (D7 .lss b x) λy=>K3 y (ob (D7 .leq a (iI 500)) λz=>F3 z (ob (F7 7 (A7 18 c) b) λw=>ob (R.p R_ [(IL w),a]) λu=>ob (D7 .add b (iI 1)) λv=>JD R u v c) (JE R a (iI 0) c)) (JE R a (iI 0) c) none):=J2 []
def OW:JE R a b c =
 (ob (L6 (A7 19 c)) λx=>ob (D7 .lss b x) λy=>K3 y (ob (D7 .leq a (iI 500)) λz=>F3 z (ob (F7 20 (A7 19 c) b) λw=>ob (R.p PY [(I7 w),a]) λu=>ob (D7 .add b (iI 1)) λv=>JE R u v c) (some a)) (some a) none):=J2 []
def Bt:C9.p PY [a,b]=A40 C9 a b:=Q0 func21
def B0O:=eP f22 Xn R [] (I6 f22 [(a,.val)] [])
def Wz:=hP f22 Xn R (pb 122) (ms 168 [(5,a)] [] [(1,bx b 20)] [])
def Ux:=hP f22 Xn R (pb 250) (ms 168 [(6,a)] [] [(1,bx b 20)] [])
def Uy:=hP f22 Xn R (pb 506) (ms 168 [(7,a)] [] [(1,bx b 20)] [])
def A8E:B0O R a =
 (og (E5 20 a)<|ob (R.p wT [(I7 a)]) λx=>ob (K5 0 x) λy=>ob (K5 1 x) λz=>og (E5 20 y)<|ob (L6 (A7 19 a)) λw=>ob (D7 .neq z w) λu=>K3 u sF (ob (R.p WY [(I7 y),(I7 a)]) λv=>ob (R8 .not v) λt=>F3 t sF (Wz R (iI 0) a)) none):=F6 []
def df:Wz R a b =
 (ob (L6 (A7 17 b)) λx=>ob (D7 .lss a x) λy=>F3 y (ob (F7 3 (A7 17 b) a) λz=>ob (R.p GM [(R6 z)]) λw=>ob (R8 .not w) λu=>F3 u sF (ob (D7 .add a (iI 1)) λv=>Wz R v b)) (Ux R (iI 0) b)):=J2 []
def ZF:Ux R a b =
 (ob (L6 (A7 10 b)) λz=>ob (D7 .lss a z) λw=>F3 w (ob (F7 1 (A7 10 b) a) λx=>og (M7 x)<|ob (D7 .lss x (iI 0)) λu=>K3 u sF (ob (F7 1 (A7 10 b) a) λy=>og (M7 y)<|ob (D7 .gtr y (iI 1048576)) λv=>F3 v sF (ob (D7 .add a (iI 1)) λt=>Ux R t b)) none) (Uy R (iI 0) b)):=J2 []
def ZG:Uy R a b =
 (ob (L6 (A7 18 b)) λx=>ob (D7 .lss a x) λy=>F3 y (ob (F7 7 (A7 18 b) a) λz=>ob (R.p Yd [(IL z)]) λw=>ob (R8 .not w) λu=>F3 u sF (ob (D7 .add a (iI 1)) λv=>Uy R v b)) (ob (D7 .eql (A7 0 b) (iI 1)) λt=>F3 t (ob (R.p Jg [(A7 3 b)]) λs=>some s) (ob (D7 .eql (A7 0 b) (iI 11)) λr=>F3 r (ob (R.p Jg [(A7 3 b)]) λq=>some q) (ob (D7 .eql (A7 0 b) (iI 3)) λo=>F3 o (ob (D7 .eql (A7 5 b) (iI 0)) λn=>K3 n sT (ob (D7 .eql (A7 5 b) (iI 1)) λm=>some m) none) (ob (D7 .eql (A7 0 b) (iI 4)) λl=>F3 l (ob (ES (A7 6 b)) λk=>ob (D7 .leq k (iI 200)) λj=>some j) (ob (D7 .eql (A7 0 b) (iI 7)) λi=>F3 i (ob (R.p GM [(.agg [(A7 11 b),(A7 12 b),(A7 13 b)])]) λh=>some h) (ob (D7 .eql (A7 0 b) (iI 9)) λg=>F3 g (ob (R.p Jg [(A7 3 b)]) λf=>K3 f (ob (R.p GM [(.agg [(A7 11 b),(A7 12 b),(A7 13 b)])]) λe=>
 some e) sF none) (ob (D7 .eql (A7 0 b) (iI 12)) λd=>F3 d (ob (R.p Jg [(A7 3 b)]) λc=>K3 c (ob (R.p Jg [(A7 4 b)]) λX=>K3 X (ob (R.p GM [(.agg [(A7 11 b),(A7 12 b),(A7 13 b)])]) λY=>K3 Y (ob (R.p GM [(.agg [(A7 14 b),(A7 15 b),(A7 16 b)])]) λZ=>some Z) sF none) sF none) sF none) (ob (D7 .eql (A7 0 b) (iI 14)) λW=>F3 W (ob (L6 (A7 18 b)) λU=>ob (D7 .gtr U (iI 0)) λV=>some V) (ob (D7 .eql (A7 0 b) (iI 15)) λT=>F3 T (ob (D7 .geq (A7 7 b) (iI 1)) λS=>K3 S (ob (D7 .leq (A7 7 b) (iI 7)) λQ=>some Q) sF none) (ob (D7 .eql (A7 0 b) (iI 16)) λP=>F3 P (ob (D7 .geq (A7 8 b) (iI 0)) λO=>K3 O (ob (D7 .leq (A7 8 b) (iI 1048576)) λN=>K3 N (ob (R.p GM [(.agg [(A7 11 b),(A7 12 b),(A7 13 b)])]) λM=>K3 M (ob (R.p GM [(.agg [(A7 14 b),(A7 15 b),(A7 16 b)])]) λL=>
 some L) sF none) sF none) sF none) sT))))))))))):=J2 []
def A6a:C9.p A1r [a]=B0O C9 a:=Q0 func22
def A7V:=eP f23 aH R [] (I6 f23 [(a,.val),(b,.val),(c,.val)] [])
def Qn:=eP f23 aH R (pb 7) (ms 44 [(1,a),(2,b)] [] [(3,bx c 20)] [])
def Uw:=hP f23 aH R (pb 58) (ms 44 [(1,a),(2,b),(7,c)] [] [(3,bx d 20)] [])
def A5T:A7V R a b c =
 (og (E5 20 a)<|ob (D7 .eql (A7 0 a) (iI 1)) λx=>K3 x (ob (R.p Vs [b,(A7 3 a)]) λy=>ob (R8 .not y) λz=>F3 z (ob (R.p wS [c,(A7 3 a)]) λw=>Qn R b w a) (Qn R b c a)) (Qn R b c a) none):=F6 [3]
def zu:Qn R a b c =
 (Uw R a b (iI 0) c):=F6 [3]
def ZE:Uw R a b c d =
 (ob (L6 (A7 19 d)) λx=>ob (D7 .lss c x) λy=>F3 y (ob (F7 20 (A7 19 d) c) λz=>ob (AP 1 (.list 1 []) a) λw=>ob (R.p T_ [(I7 d),c]) λu=>ob (AP 1 w u) λv=>ob (R.p gV [(I7 z),v,b]) λt=>ob (D7 .add c (iI 1)) λs=>Uw R a t s d) (some b)):=J2 [3]
def A23:C9.p gV [a,b,c]=A7V C9 a b c:=Q0 func23
def A5h:=eP f24 A3r R [] (I6 f24 [(a,.val)] [])
def A2x:A5h R a =
 (og (E5 20 a)<|ob (R.p Lj [(I7 a),(iI 0)]) λx=>ob (D7 .leq x (iI 1200)) λy=>K3 y (ob (R.p KY [(I7 a),(iI 0)]) λz=>ob (D7 .leq z (iI 20000)) λw=>some w) sF none):=F6 []
def A0G:C9.p Zu [a]=A5h C9 a:=Q0 func24
def zK:=eP f25 Sl R [] (I6 f25 [(a,.val)] [])
def OI:=eP f25 Sl R (pb 430) (ms 63 [] [] [(1,bx a 20)] [])
def OJ:=eP f25 Sl R (pb 3453) (ms 63 [(3,a)] [] [(1,bx b 20)] [])
def uI:zK R a =
 (og (E5 20 a)<|ob (D7 .eql (A7 0 a) (iI 2)) λx=>F3 x sT (ob (D7 .eql (A7 0 a) (iI 3)) λy=>F3 y sT (ob (D7 .eql (A7 0 a) (iI 4)) λz=>F3 z sT (ob (D7 .eql (A7 0 a) (iI 5)) λw=>F3 w sT (ob (D7 .eql (A7 0 a) (iI 7)) λu=>F3 u sT (ob (D7 .eql (A7 0 a) (iI 9)) λv=>F3 v sT (ob (D7 .eql (A7 0 a) (iI 6)) λt=>F3 t (OI R a) (ob (D7 .eql (A7 0 a) (iI 8)) λs=>F3 s (OI R a) (ob (D7 .eql (A7 0 a) (iI 16)) λr=>F3 r (ob (D7 .eql (A7 11 a) (A7 14 a)) λq=>K3 q (ob (L6 (A7 13 a)) λp=>ob (D7 .gtr p (iI 0)) λo=>OJ R o a) (OJ R (.bool false) a) none) sF))))))))):=F6 [11,14]
def fQ:OI R a =
 (ob (F7 20 (A7 19 a) (iI 0)) λx=>ob (R.p FI [(I7 x)]) λy=>K3 y (ob (F7 20 (A7 19 a) (iI 1)) λz=>ob (R.p FI [(I7 z)]) λw=>some w) sF none):=F6 [11,14]
def fT:OJ R a b =
 (K3 a (ob (F7 20 (A7 19 b) (iI 0)) λx=>ob (R.p FI [(I7 x)]) λy=>some y) (ob (D7 .eql (A7 14 b) (iI 5)) λz=>K3 z (ob (R.p jF [(.agg [(A7 11 b),(A7 12 b),(A7 13 b)])]) λw=>K3 w (ob (F7 20 (A7 19 b) (iI 0)) λu=>ob (R.p FI [(I7 u)]) λv=>some v) sF none) sF none) none):=F6 [11,14]
def oh:C9.p FI [a]=zK C9 a:=Q0 func25
end
end Go.Su

/-
 Equations of the program's functions: by program.
-/
namespace Go.Su
set_option linter.defProp false
set_option maxRecDepth 100000
noncomputable section
open Go.Proofs
open Tryz
variable (R: U1)(i j k l m n: Nat)(a b c d e f g h o p q r t u v w x y z A B C D E F G H I J K L M N O P Q S T U V W X Y Z: DV)(s: List H7)
def A70:=eP f26 aJ R [] (I6 f26 [(a,.val)] [])
def zM:=eP f26 aJ R (pb 943) (ms 169 [(40,a)] [] [(1,bx b 20),(2,some MR),(3,some Ck)] [])
def U_:=eP f26 aJ R (pb 15099) (ms 169 [] [] [(1,bx a 20),(2,some MR),(3,some Ck),(8,bv [b,c,d,e,f,g,h,o,p,q,r,t,u,v,w,x,y,z,A,B])] [])
def aF:A70 R a =
 (og (E5 20 a)<|ob (R.p A1s [(I7 a)]) λy=>ob (D7 .geq y (iI 0)) λo=>F3 o (ob (F7 20 (A7 19 a) y) λn=>ob (R.p GR [(I7 n)]) λz=>ob (K5 0 z) λw=>ob (K5 1 z) λx=>og (E5 20 w)<|og (E5 15 x)<|ob (D7 .neq (A7 0 x) (iI 0)) λm=>F3 m (some (.I4 [(.agg ((iI 0)::(EX []))),(AO x)])) (ob (XE 20 (.list 20 []) (A7 19 a)) λp8=>ob (Cf 0 (p8.1.length+p8.2.length) y) λn9=>ob (Po (20,p8.1,p8.2) n9 (I7 w)) λx10=>ob (NB [x10] 0) λq11=>ob (Kh q11 20 (p8.1.length+p8.2.length)) λl=>some (.I4 [(.agg [(A7 0 a),(A7 1 a),(A7 2 a),(A7 3 a),(A7 4 a),(A7 5 a),(A7 6 a),(A7 7 a),(A7 8 a),(A7 9 a),(A7 10 a),(A7 11 a),(A7 12 a),(A7 13 a),(A7 14 a),(A7 15 a),(A7 16 a),(A7 17 a),(A7 18 a),l]),(AO x)]))) (ob (D7 .eql (A7 0 a) (iI 10)) λk=>
 F3 k (ob (F7 20 (A7 19 a) (iI 0)) λj=>ob (F7 20 (A7 19 a) (iI 1)) λi=>ob (R.p qR [(I7 j),(I7 i)]) λu=>ob (K5 0 u) λv=>ob (K5 1 u) λt=>og (E5 20 v)<|og (E5 15 t)<|some (.I4 [(I7 v),(AO t)])) (ob (D7 .eql (A7 0 a) (iI 11)) λh=>F3 h (ob (F7 20 (A7 19 a) (iI 1)) λg=>ob (F7 20 (A7 19 a) (iI 0)) λf=>ob (R.p Vt [(I7 g),(A7 3 a),(A7 10 a),(I7 f)]) λs=>ob (K5 0 s) λr=>ob (K5 1 s) λq=>og (E5 20 r)<|og (E5 15 q)<|some (.I4 [(I7 r),(AO q)])) (zM R (A7 0 a) a)))):=F6 [15,19]
def ZI:zM R a b =
 (ob (D7 .eql a (iI 12)) λm=>F3 m (ob (F7 20 (A7 19 b) (iI 0)) λl=>ob (F7 20 (A7 19 b) (iI 0)) λk=>og (J7 (A7 3 b))<|og (J7 (A7 4 b))<|ob (D7 .eql (A7 3 b) (A7 4 b)) λj=>F3 j (ob (F7 20 (A7 19 b) (iI 0)) λx=>U_ R b (A7 0 x) (A7 1 x) (A7 2 x) (A7 3 x) (A7 4 x) (A7 5 x) (A7 6 x) (A7 7 x) (A7 8 x) (A7 9 x) (A7 10 x) (A7 11 x) (A7 12 x) (A7 13 x) (A7 14 x) (A7 15 x) (A7 16 x) (A7 17 x) (A7 18 x) (A7 19 x)) (U_ R b (iI 12) (iI 0) (iI 0) (A7 3 b) (A7 4 b) (iI 0) (.str ⟨#[]⟩) (iI 0) (iI 0) (.bool false) (.list 1 []) (A7 11 b) (A7 12 b) (A7 13 b) (A7 14 b) (A7 15 b) (A7 16 b) (.list 3 []) (.list 7 []) (.list 20 [(I7 l),(I7 k)]))) (ob (D7 .eql a (iI 13)) λi=>F3 i (ob (F7 20 (A7 19 b) (iI 0)) λh=>ob (D7 .eql (A7 0 h) (iI 3)) λg=>F3 g (ob (F7 20 (A7 19 b) (iI 0)) λf=>ob (D7 .sub (iI 2) (A7 5 f)) λe=>ob (F7 20 (A7 19 b) e) λd=>
 some (.I4 [(I7 d),(.agg ((iI 0)::(Dk [])))])) (ob (R.p Am []) λy=>og (E5 15 y)<|some (.I4 [(.agg ((iI 0)::(EX []))),(AO y)]))) (ob (D7 .eql a (iI 15)) λc=>F3 c (ob (F7 20 (A7 19 b) (iI 0)) λX=>ob (F7 20 (A7 19 b) (iI 1)) λY=>ob (R.p dD [(I7 b),(I7 X),(I7 Y)]) λz=>ob (K5 0 z) λw=>ob (K5 1 z) λu=>og (E5 20 w)<|og (E5 15 u)<|some (.I4 [(I7 w),(AO u)])) (ob (D7 .eql a (iI 14)) λZ=>F3 Z (ob (R.p jE [(I7 b)]) λv=>ob (K5 0 v) λt=>ob (K5 1 v) λs=>og (E5 20 t)<|og (E5 15 s)<|some (.I4 [(I7 t),(AO s)])) (ob (D7 .eql a (iI 16)) λW=>
 F3 W (ob (F7 20 (A7 19 b) (iI 0)) λU=>ob (R.p jG [(I7 b),(I7 U)]) λr=>ob (K5 0 r) λq=>ob (K5 1 r) λo=>og (E5 20 q)<|og (E5 15 o)<|some (.I4 [(I7 q),(AO o)])) (ob (R.p Am []) λn=>og (E5 15 n)<|some (.I4 [(.agg ((iI 0)::(EX []))),(AO n)]))))))):=F6 [15,19]
def uL:U_ R a b c d e f g h o p q r t u v w x y z A B =
 (ob (F7 20 (A7 19 a) (iI 1)) λl=>og (J7 (A7 4 a))<|ob (R.p Vt [(I7 l),(A7 3 a),(A7 10 a),(.agg ((iI 9)::(iI 0)::(iI 0)::(A7 4 a)::(.str ⟨#[]⟩)::(cZ (zz9 ((A7 11 a)::(A7 12 a)::(A7 13 a)::(Bz [(.list 3 []),(.list 7 []),(.list 20 [(.agg [b,c,d,e,f,g,h,o,p,q,r,t,u,v,w,x,y,z,A,B])])]))))))]) λs=>ob (K5 0 s) λn=>ob (K5 1 s) λm=>og (E5 20 n)<|og (E5 15 m)<|some (.I4 [(I7 n),(AO m)])):=F6 [15,19]
def Xh:C9.p GR [a]=A70 C9 a:=Q0 func26
def zB:=eP f27 vJ R [] (I6 f27 [(a,.val)] [])
def tT:zB R a =
 (og (E5 20 a)<|ob (R.p We [(I7 a)]) λx=>ob (D7 .eql x (iI 0)) λy=>K3 y (ob (R.p Zv [(I7 a)]) λz=>ob (L6 z) λw=>ob (D7 .eql w (iI 0)) λu=>some u) sF none):=F6 []
def oP:C9.p La [a]=zB C9 a:=Q0 func27
def A1z:=eP f28 eD R [] (I6 f28 [(a,.val)] [])
def QE:=eP f28 eD R (pb 430) (ms 38 [] [] [(1,bx a 20)] [])
def zg:A1z R a =
 (og (E5 20 a)<|ob (D7 .eql (A7 0 a) (iI 2)) λx=>F3 x sT (ob (D7 .eql (A7 0 a) (iI 3)) λy=>F3 y sT (ob (D7 .eql (A7 0 a) (iI 4)) λz=>F3 z sT (ob (D7 .eql (A7 0 a) (iI 5)) λw=>F3 w sT (ob (D7 .eql (A7 0 a) (iI 7)) λu=>F3 u sT (ob (D7 .eql (A7 0 a) (iI 9)) λv=>F3 v sT (ob (D7 .eql (A7 0 a) (iI 6)) λt=>F3 t (QE R a) (ob (D7 .eql (A7 0 a) (iI 8)) λs=>F3 s (QE R a) (ob (D7 .eql (A7 0 a) (iI 16)) λr=>F3 r (ob (R.p dA [(I7 a)]) λq=>K3 q (ob (F7 20 (A7 19 a) (iI 0)) λo=>ob (R.p Dv [(I7 o)]) λn=>some n) sF none) sF))))))))):=F6 [11]
def jy:QE R a =
 (ob (F7 20 (A7 19 a) (iI 0)) λx=>ob (R.p Dv [(I7 x)]) λy=>K3 y (ob (F7 20 (A7 19 a) (iI 1)) λz=>ob (R.p Dv [(I7 z)]) λw=>some w) sF none):=F6 [11]
def uf:C9.p Dv [a]=A1z C9 a:=Q0 func28
def A4R:=eP f29 kw R [] (I6 f29 [(a,.val)] [])
def SF:=hP f29 kw R (pb 26) (ms 144 [(10,a),(11,b)] [] [(1,bx c 20),(2,some MR),(3,some Ck)] [])
def XK:A4R R a =
 (og (E5 20 a)<|ob (R.p qJ [(A7 0 a)]) λx=>SF R x (iI 0) a):=F6 []
def MC:SF R a b c =
 (ob (D7 .lss b a) λT=>F3 T (ob (F7 20 (A7 19 c) b) λS=>ob (R.p Dv [(I7 S)]) λQ=>F3 Q (ob (D7 .add b (iI 1)) λP=>SF R a P c) (ob (F7 20 (A7 19 c) b) λO=>ob (R.p DN [(I7 O)]) λz=>ob (K5 0 z) λx=>ob (K5 1 z) λy=>og (E5 20 x)<|og (E5 15 y)<|ob (D7 .neq (A7 0 y) (iI 0)) λN=>F3 N (some (.I4 [(.agg ((iI 0)::(EX []))),(AO y)])) (ob (aC (A7 19 c)) λp10=>og (true&&p10.1==20&&decide (p10.2.length<=J9))<|ob (Cf 0 p10.2.length b) λn11=>ob (p10.2[n11]?) λu12=>B4C [ob (X6 [.arr 20 (p10.2.set n11 (I7 x))] [((A7 0 c),.val),((A7 1 c),.val),((A7 2 c),.val),((A7 3 c),.val),((A7 4 c),.val),((A7 5 c),.val),((A7 6 c),.val),((A7 7 c),.val),((A7 8 c),.val),((A7 9 c),.val),((A7 10 c),.val),((A7 11 c),.val),((A7 12 c),.val),((A7 13 c),.val),((A7 14 c),.val),((A7 15 c),.val),((A7 16 c),.val),((A7 17 c),.val),((A7 18 c),.val),(.undef,(.arr 0 20 0 p10.2.length))]) λds=>
 some (.agg ds),ob (X6 [.arr 20 (p10.2.set n11 (I7 x))] (zz4 [])) λds=>some (.agg ds)]))) (ob (D7 .eql (A7 0 c) (iI 10)) λM=>F3 M (ob (F7 20 (A7 19 c) (iI 0)) λL=>ob (F7 20 (A7 19 c) (iI 1)) λK=>ob (R.p wM [(I7 L),(I7 K)]) λw=>ob (K5 0 w) λu=>ob (K5 1 w) λv=>og (E5 20 u)<|og (E5 15 v)<|some (.I4 [(I7 u),(AO v)])) (ob (D7 .eql (A7 0 c) (iI 11)) λJ=>F3 J (ob (F7 20 (A7 19 c) (iI 1)) λI=>ob (F7 20 (A7 19 c) (iI 0)) λH=>ob (R.p Rz [(I7 I),(A7 3 c),(A7 10 c),(I7 H)]) λt=>ob (K5 0 t) λs=>ob (K5 1 t) λr=>og (E5 20 s)<|og (E5 15 r)<|some (.I4 [(I7 s),(AO r)])) (ob (D7 .eql (A7 0 c) (iI 12)) λG=>
 F3 G (ob (R.p wN [(I7 c)]) λq=>ob (K5 0 q) λo=>ob (K5 1 q) λn=>og (E5 20 o)<|og (E5 15 n)<|some (.I4 [(I7 o),(AO n)])) (ob (D7 .eql (A7 0 c) (iI 13)) λF=>F3 F (ob (F7 20 (A7 19 c) (iI 0)) λm=>ob (D7 .neq (A7 0 m) (iI 3)) λE=>F3 E (ob (R.p Bu []) λl=>ob (K5 0 l) λk=>ob (K5 1 l) λj=>og (E5 20 k)<|og (E5 15 j)<|some (.I4 [(I7 k),(AO j)])) (ob (D7 .eql (A7 5 m) (iI 1)) λD=>F3 D (ob (F7 20 (A7 19 c) (iI 1)) λC=>some (.I4 [(I7 C),(.agg ((iI 0)::(Dk [])))])) (ob (F7 20 (A7 19 c) (iI 2)) λB=>some (.I4 [(I7 B),(.agg ((iI 0)::(Dk [])))])))) (ob (D7 .eql (A7 0 c) (iI 15)) λA=>
 F3 A (ob (F7 20 (A7 19 c) (iI 0)) λd39=>ob (F7 20 (A7 19 c) (iI 1)) λd40=>ob (R.p Yc [(I7 c),(I7 d39),(I7 d40)]) λi=>ob (K5 0 i) λh=>ob (K5 1 i) λg=>og (E5 20 h)<|og (E5 15 g)<|some (.I4 [(I7 h),(AO g)])) (ob (D7 .eql (A7 0 c) (iI 14)) λd44=>F3 d44 (ob (R.p jB [(I7 c)]) λf=>ob (K5 0 f) λe=>ob (K5 1 f) λd=>og (E5 20 e)<|og (E5 15 d)<|some (.I4 [(I7 e),(AO d)])) (ob (D7 .eql (A7 0 c) (iI 16)) λd48=>F3 d48 (ob (F7 20 (A7 19 c) (iI 0)) λd49=>ob (R.p jA [(I7 c),(I7 d49)]) λX=>ob (K5 0 X) λY=>ob (K5 1 X) λZ=>og (E5 20 Y)<|og (E5 15 Z)<|some (.I4 [(I7 Y),(AO Z)])) (ob (R.p Bu []) λW=>ob (K5 0 W) λU=>ob (K5 1 W) λV=>og (E5 20 U)<|og (E5 15 V)<|some (.I4 [(I7 U),(AO V)])))))))))):=J2 []
def VE:C9.p DN [a]=A4R C9 a:=Q0 func29
end
end Go.Su

/-
 Equations of the program's functions: by program.
-/
namespace Go.Su
set_option linter.defProp false
set_option maxRecDepth 100000
noncomputable section
open Go.Proofs
open Tryz
variable (R: U1)(i j k l m n: Nat)(a b c d e f g h o p q r t u v w x y z P Q S T U V W X Y Z a8 a11: DV)(s: List H7)
def YU:=eR f30 Dq Gc R [] (I6 f30 [(pt i)] s)
def Ew:=eR f30 Dq Gc R (pb 2026) (ms 101 [] [(0,(.ptr i 0))] [(2,some Ck),(5,bx a 20),(6,bv ((iI 0)::b::c::(B8X [])))] s)
def IU:=eR f30 Dq Gc R (pb 127) (ms 101 [] [(0,(.ptr i 0))] [(2,some Ck),(6,bv (a::b::c::(B8X [])))] s)
def Vu:=eR f30 Dq Gc R (pb 129791) (ms 101 [(4,a)] [(0,(.ptr i 0))] [(2,some Ck),(5,bx b 20),(6,bv (c::d::e::(B8X [])))] s)
def xF:YU R i s =
 (ob (Q7 s i) λc1=>ob (iR s i 0 c1 20) λv2=>ob (B0F v2.2.2.2) λw=>ob (D7 .sub w (iI 1)) λy=>ob (Q7 v2.1 i) λc5=>ob (iR v2.1 i 0 c5 20) λv6=>ob (Cf 0 v6.2.2.2 y) λn7=>ob (VJ v6.1 v6.2.1 v6.2.2.1) λa8=>ob (a8.2[n7]?) λu=>og (a8.1==20)<|ob (R.r Qh [((I7 u),.val)] v6.1) λJO=>ob (K5 0 (.I4 JO.1)) λz=>ob (K5 1 (.I4 JO.1)) λx=>og (E5 20 x)<|ob (Q7 JO.2 i) λc13=>ob (iR JO.2 i 0 c13 20) λv14=>ob (bnd v14.2.2.2 (some y)) λn15=>if n15<=v14.2.2.2 then(ob (Q7 v14.1 i) λc16=>ob (c16[0]?) λu17=>og (J7 (A7 5 x))<|og (J7 (A7 6 x))<|ob (D7 .eql (A7 0 x) (iI 2)) λv=>F3 v (Ew R i x (A7 5 x) (A7 6 x) (v14.1.set i (H7.box (c16.set 0 (.undef,(.BF v14.2.1 v14.2.2.1 20 n15)))))) (ob (D7 .eql (A7 0 x) (iI 3)) λt=>F3 t (Ew R i x (A7 5 x) (A7 6 x) (v14.1.set i (H7.box (c16.set 0 (.undef,(.BF v14.2.1 v14.2.2.1 20 n15)))))) (ob (D7 .eql (A7 0 x) (iI 4)) λq=>F3 q (Ew R i x (A7 5 x) (A7 6 x) (v14.1.set i (H7.box (c16.set 0 (.undef,(.BF v14.2.1 v14.2.2.1 20 n15)))))) (ob (D7 .eql (A7 0 x) (iI 5)) λp=>
 F3 p (Ew R i x (A7 5 x) (A7 6 x) (v14.1.set i (H7.box (c16.set 0 (.undef,(.BF v14.2.1 v14.2.2.1 20 n15)))))) (ob (D7 .eql (A7 0 x) (iI 7)) λo=>F3 o (IU R i (iI 6) (A7 5 x) (A7 6 x) (v14.1.set i (H7.box (c16.set 0 (.undef,(.BF v14.2.1 v14.2.2.1 20 n15)))))) (ob (D7 .eql (A7 0 x) (iI 9)) λn=>F3 n (IU R i (iI 8) (A7 5 x) (A7 6 x) (v14.1.set i (H7.box (c16.set 0 (.undef,(.BF v14.2.1 v14.2.2.1 20 n15)))))) (ob (D7 .eql (A7 0 x) (iI 8)) λm=>F3 m (Vu R i z x (iI 7) (A7 5 x) (A7 6 x) (v14.1.set i (H7.box (c16.set 0 (.undef,(.BF v14.2.1 v14.2.2.1 20 n15)))))) (Vu R i z x (iI 5) (A7 5 x) (A7 6 x) (v14.1.set i (H7.box (c16.set 0 (.undef,(.BF v14.2.1 v14.2.2.1 20 n15)))))))))))))else none):=F6 [9,17,22]
def nL:Ew R i a b c s =
 (ob (D7 .sub (A7 0 a) (iI 2)) λy=>ob (D7 .add y (iI 1)) λx=>og (J7 x)<|IU R i x b c s):=F6 [9,17,22]
def nM:IU R i a b c s =
 (ob (Q7 s i) λc1=>ob (Ld c1 1) λx=>ob (L6 x) λy=>ob (XE 9 x (.list 9 [(.agg (qI []))])) λp4=>ob (Cf 0 (p4.1.length+p4.2.length) y) λn5=>ob (NB ((s.set i (H7.box (c1.set 1 (x,.val))))++[H7.opn 9 p4.1 p4.2]) ((s.set i (H7.box (c1.set 1 (x,.val))))).length) λq6=>og (q6.1==9&&true)<|ob (Po q6 n5 (.agg (a::b::c::(B8X [])))) λx7=>ob (Q7 (((s.set i (H7.box (c1.set 1 (x,.val))))++[H7.opn 9 p4.1 p4.2]).set ((s.set i (H7.box (c1.set 1 (x,.val))))).length (x7)) i) λc8=>ob (c8[1]?) λu9=>ob (Q7 ((((s.set i (H7.box (c1.set 1 (x,.val))))++[H7.opn 9 p4.1 p4.2]).set ((s.set i (H7.box (c1.set 1 (x,.val))))).length (x7)).set i (H7.box (c8.set 1 (.undef,(.arr ((s.set i (H7.box (c1.set 1 (x,.val))))).length 9 0 (p4.1.length+p4.2.length)))))) i) λc10=>ob (iW c10 1) λa11=>ob (NB ((((s.set i (H7.box (c1.set 1 (x,.val))))++[H7.opn 9 p4.1 p4.2]).set ((s.set i (H7.box (c1.set 1 (x,.val))))).length (x7)).set i (H7.box (c8.set 1 (.undef,(.arr ((s.set i (H7.box (c1.set 1 (x,.val))))).length 9 0 (p4.1.length+p4.2.length)))))) a11.1) λq12=>
 ob (Kh q12 a11.2.1 a11.2.2) λz=>some ([(.agg ((iI 0)::(Dk [])))],((((((s.set i (H7.box (c1.set 1 (x,.val))))++[H7.opn 9 p4.1 p4.2]).set ((s.set i (H7.box (c1.set 1 (x,.val))))).length (x7)).set i (H7.box (c8.set 1 (.undef,(.arr ((s.set i (H7.box (c1.set 1 (x,.val))))).length 9 0 (p4.1.length+p4.2.length)))))).set i (H7.box (c10.set 1 (z,.own)))).set a11.1 (.arr 1 [])))):=F6 [9,17,22]
def uX:C9.r YS [(.undef,(.ptr i 0))] s=YU C9 i s:=LU (s:=Dq) func30
def A4S:=eP f31 ky R [] (I6 f31 [(a,.val)] [])
def zC:=eP f31 ky R (pb 122) (ms 39 [(0,a)] [] [(2,bv (qI [])),(4,bx b 9)] [])
def B3z:A4S R a =
 (ob (F7 9 a (iI 0)) λx=>ob (Cz 9 a (some (iI 1)) none) λy=>ob (D7 .eql (A7 0 x) (iI 5)) λz=>K3 z (zC R y x) (ob (D7 .eql (A7 0 x) (iI 7)) λw=>F3 w (zC R y x) (some (.I4 [(.agg [(A7 0 x),(A7 1 x),(A7 2 x),(A7 3 x),(A7 4 x),(A7 5 x),(A7 6 x),(A7 7 x),(A7 8 x)]),y]))) none):=F6 [4]
def B2f:C9.p A4M [a]=A4S C9 a:=Q0 func31
def A7B:=eP f32 A6g R [] (I6 f32 [(a,.val),(b,.val),(c,.val),(d,.val)] [])
def B5B:A7B R a b c d =
 (og (E5 20 d)<|ob (R.p WU [a]) λx=>ob (R.p WU [b]) λy=>og (J7 c)<|og (E5 3 x)<|og (E5 3 y)<|some (.agg ((iI 16)::(Qe (cZ [c,(.bool false),(.list 1 []),(A7 0 x),(A7 1 x),(A7 2 x),(A7 0 y),(A7 1 y),(A7 2 y),(.list 3 []),(.list 7 []),(.list 20 [(I7 d)])]))))):=F6 []
def B3L:C9.p WS [a,b,c,d]=A7B C9 a b c d:=Q0 func32
def B0I:=eP f33 A8S R [] (I6 f33 [(a,.val)] [])
def B7D:B0I R a =
 (og (J7 a)<|some (.agg ((iI 2)::(Qe (a::(.str ⟨#[]⟩)::(iI 0)::(Ue [(.list 20 [])])))))):=F6 []
def B5H:C9.p aX [a]=B0I C9 a:=Q0 func33
def A7T:=eR f35 Iz MX R [] (I6 f35 [(pt i),(a,.val),(b,.val)] s)
def Uu:=hR f35 Iz MX R (pb 122) (ms 200 [(2,a),(7,b),(8,c)] [(0,(.ptr i 0)),(7,.own)] [(4,bx d 20)] s)
def EK:=eR f35 Iz MX R (pb 7827) (ms 200 [(2,a),(7,b),(8,c),(9,d)] [(0,(.ptr i 0)),(7,.own)] [(4,bx e 20)] s)
def Ut:=eR f35 Iz MX R (pb 250447) (ms 200 [(2,a),(7,b),(8,c),(9,d)] [(0,(.ptr i 0)),(7,.own)] [(4,bx e 20)] s)
def SX:=hR f35 Iz MX R (pb 506) (ms 200 [(2,a),(7,b),(12,c),(13,d)] [(0,(.ptr i 0))] [(4,bx e 20)] s)
def SV:=hR f35 Iz MX R (pb 32057334) (ms 200 [(2,a),(7,b),(8,c),(9,d),(10,e),(11,f)] [(0,(.ptr i 0)),(7,.own)] [(4,bx g 20)] s)
def A5R:A7T R i a b s =
 (og (E5 20 a)<|ob (Q7 s i) λc1=>ob (Y5 c1 0) λx=>F3 x (some ([(iI 1)],s)) (Uu R i b (.list 1 []) (iI 0) a s)):=F6 [12,22]
def uG:Uu R i a b c d s =
 (ob (L6 (A7 19 d)) λy=>ob (D7 .lss c y) λz=>F3 z (ob (D7 .eql (A7 0 d) (iI 9)) λw=>F3 w (ob (R.p FH [(.agg [(A7 11 d),(A7 12 d),(A7 13 d)])]) λu=>oc (R.r CU [(pt i),(u,.val)] s) λq5 s5=>ob (R.p OA [a,(A7 3 d),q5]) λv=>EK R i a b c v d s5) (ob (D7 .eql (A7 0 d) (iI 11)) λt=>K3 t (ob (D7 .eql c (iI 1)) λq=>F3 q (ob (F7 1 b (iI 0)) λx=>og (M7 x)<|ob (R.p OA [a,(A7 3 d),x]) λo=>EK R i a b c o d s) (Ut R i a b c a d s)) (Ut R i a b c a d s) none)) (SX R i a b (iI 1) (iI 0) d s)):=J2 [12,22]
def A95:EK R i a b c d e s =
 (ob (F7 20 (A7 19 e) c) λx=>oc (R.r gU [(pt i),((I7 x),.val),(d,.val)] s) λq2 s2=>og (J7 q2)<|ob (AP 1 b (.list 1 [q2])) λy=>ob (D7 .add c (iI 1)) λz=>Uu R i a y z e s2):=F6 [12,22]
def A94:Ut R i a b c d e s =
 (ob (D7 .eql (A7 0 e) (iI 12)) λy=>F3 y (ob (R.p FH [(.agg [(A7 11 e),(A7 12 e),(A7 13 e)])]) λz=>ob (R.p FH [(.agg [(A7 14 e),(A7 15 e),(A7 16 e)])]) λw=>ob (D7 .add z w) λu=>ob (D7 .add u (iI 1)) λv=>oc (R.r CU [(pt i),(v,.val)] s) λq6 s6=>ob (R.p OA [a,(A7 3 e),q6]) λx=>ob (D7 .eql c (iI 0)) λt=>F3 t (ob (R.p FH [(.agg [(A7 11 e),(A7 12 e),(A7 13 e)])]) λq=>oc (R.r CU [(pt i),(q,.val)] s6) λJO s10=>ob (R.p OA [x,(A7 4 e),JO]) λo=>EK R i a b c o e s10) (EK R i a b c x e s6)) (ob (D7 .eql (A7 0 e) (iI 14)) λn=>K3 n (ob (D7 .gtr c (iI 0)) λm=>K3 m (ob (L6 (A7 18 e)) λl=>ob (D7 .leq c l) λk=>F3 k (ob (D7 .sub c (iI 1)) λj=>ob (F7 7 (A7 18 e) j) λh=>ob (R.p Tz [(IL h)]) λg=>SV R i a b c d g (iI 0) e s) (EK R i a b c d e s)) (EK R i a b c d e s) none) (EK R i a b c d e s) none)):=F6 [12,22]
def oG:SX R i a b c d e s =
 (ob (L6 b) λu=>ob (D7 .lss d u) λv=>F3 v (ob (F7 1 b d) λx=>og (M7 x)<|ob (jm c x) λt=>ob (D7 .add d (iI 1)) λq=>SX R i a b t q e s) (ob (D7 .eql (A7 0 e) (iI 1)) λo=>F3 o (oc (R.r VM [(pt i),(a,.val),((A7 3 e),.val),((A7 17 e),.val)] s) λq7 s7=>some ([q7],s7)) (ob (D7 .eql (A7 0 e) (iI 7)) λn=>F3 n (ob (R.p FH [(.agg [(A7 11 e),(A7 12 e),(A7 13 e)])]) λm=>ob (D7 .add m (iI 1)) λl=>oc (R.r CU [(pt i),(l,.val)] s) λq11 s11=>some ([q11],s11)) (ob (D7 .eql (A7 0 e) (iI 6)) λk=>F3 k (ob (F7 1 b (iI 0)) λy=>og (M7 y)<|ob (F7 1 b (iI 1)) λz=>og (M7 z)<|ob (D7 .add y z) λj=>ob (D7 .add j (iI 1)) λh=>oc (R.r CU [(pt i),(h,.val)] s) λq17 s17=>some ([q17],s17)) (ob (D7 .eql (A7 0 e) (iI 8)) λg=>F3 g (ob (D7 .add c (iI 1)) λf=>
 oc (R.r CU [(pt i),(f,.val)] s) λq20 s20=>some ([q20],s20)) (ob (D7 .eql (A7 0 e) (iI 9)) λX=>F3 X (ob (R.p FH [(.agg [(A7 11 e),(A7 12 e),(A7 13 e)])]) λY=>ob (D7 .add Y (iI 1)) λZ=>ob (F7 1 b (iI 0)) λw=>og (M7 w)<|ob (D7 .add Z w) λW=>oc (R.r CU [(pt i),(W,.val)] s) λq26 s26=>some ([q26],s26)) (ob (D7 .eql (A7 0 e) (iI 16)) λU=>F3 U (ob (R.p FH [(.agg [(A7 14 e),(A7 15 e),(A7 16 e)])]) λV=>oc (R.r CU [(pt i),(V,.val)] s) λq29 s29=>some ([q29],s29)) (some ([c],s))))))))):=J2 [12,22]
def oF:SV R i a b c d e f g s =
 (ob (L6 e) λz=>ob (D7 .lss f z) λw=>F3 w (ob (F7 1 e f) λx=>og (M7 x)<|ob (F7 1 b (iI 0)) λy=>og (M7 y)<|ob (R.p OA [d,x,y]) λu=>ob (D7 .add f (iI 1)) λv=>SV R i a b c u e v g s) (EK R i a b c d g s)):=J2 [12,22]
def A21:C9.r gU [(.undef,(.ptr i 0)),(a,.val),(b,.val)] s=A7T C9 i a b s:=LU (s:=Iz) func35
def A1M:=eP f36 A0W R [] (I6 f36 [(a,.val)] [])
def A0c:A1M R a =
 (og (E5 20 a)<|ob (R.p Qj [(I7 a)]) λx=>ob (R8 .not x) λy=>F3 y (some (iI 1)) (some (iI 0))):=F6 []
def uy:C9.p We [a]=A1M C9 a:=Q0 func36
def Ff:=eR f37 Jw Py R [] (I6 f37 [(.undef,(.map i)),(a,.val),(b,.val)] s)
def GX:=eR f37 Jw Py R (pb 430) (ms 120 [] [] [(4,bx a 20),(6,some nK)] s)
def CP:Ff R i a b s =
 (og (E5 20 a)<|ob (D7 .eql (A7 0 a) (iI 1)) λn=>F3 n (ob (R.r Li [(.undef,(.map i)),((I7 a),.val),(b,.val)] s) λq2=>ob (K5 0 (.I4 q2.1)) λx=>ob (K5 1 (.I4 q2.1)) λm=>og (E5 3 x)<|some ([(R6 x),m],q2.2)) (ob (D7 .eql (A7 0 a) (iI 2)) λl=>F3 l (GX R a s) (ob (D7 .eql (A7 0 a) (iI 3)) λk=>F3 k (GX R a s) (ob (D7 .eql (A7 0 a) (iI 4)) λj=>F3 j (GX R a s) (ob (D7 .eql (A7 0 a) (iI 5)) λh=>F3 h (GX R a s) (ob (D7 .eql (A7 0 a) (iI 7)) λg=>F3 g (oc (R.r EZ [(.undef,(.map i)),((.list 3 [(.agg [(A7 11 a),(A7 12 a),(A7 13 a)])]),.val)] s) λJO s10=>ob (R8 .not JO) λf=>F3 f (some ([(.agg (Bz [])),(iI 6)],s10)) (some ([(.agg [(iI 8),(iI 0),(.list 3 [(.agg [(A7 11 a),(A7 12 a),(A7 13 a)])])]),(iI 0)],s10))) (ob (D7 .eql (A7 0 a) (iI 9)) λe=>F3 e (oc (R.r EZ [(.undef,(.map i)),((.list 3 [(.agg [(A7 11 a),(A7 12 a),(A7 13 a)])]),.val)] s) λq13 s13=>
 ob (R8 .not q13) λd=>F3 d (some ([(.agg (Bz [])),(iI 6)],s13)) (ob (F7 20 (A7 19 a) (iI 0)) λc=>og (J7 (A7 3 a))<|oc (R.r KX [(b,.val),((.list 5 [(.agg [(A7 3 a),(A7 11 a),(A7 12 a),(A7 13 a),(.list 1 [])])]),.val)] s13) λq16 s16=>ob (R.r Y8 [(.undef,(.map i)),((I7 c),.val),(q16,.val)] s16) λq17=>ob (K5 0 (.I4 q17.1)) λy=>ob (K5 1 (.I4 q17.1)) λz=>og (E5 3 y)<|ob (D7 .neq z (iI 0)) λX=>F3 X (some ([(.agg (Bz [])),z],q17.2)) (ob (R.p Zn [(.agg [(A7 11 a),(A7 12 a),(A7 13 a)]),(R6 y)]) λw=>og (E5 3 w)<|some ([(R6 w),(iI 0)],q17.2)))) (ob (D7 .eql (A7 0 a) (iI 11)) λY=>F3 Y (ob (R.r JV [(.undef,(.map i)),((I7 a),.val),(b,.val)] s) λq23=>ob (K5 0 (.I4 q23.1)) λu=>ob (K5 1 (.I4 q23.1)) λZ=>og (E5 3 u)<|some ([(R6 u),Z],q23.2)) (ob (D7 .eql (A7 0 a) (iI 12)) λW=>
 F3 W (ob (R.r JW [(.undef,(.map i)),((I7 a),.val),(b,.val)] s) λq27=>ob (K5 0 (.I4 q27.1)) λv=>ob (K5 1 (.I4 q27.1)) λU=>og (E5 3 v)<|some ([(R6 v),U],q27.2)) (ob (D7 .eql (A7 0 a) (iI 14)) λV=>F3 V (ob (R.r Ho [(.undef,(.map i)),((I7 a),.val),(b,.val)] s) λq31=>ob (K5 0 (.I4 q31.1)) λt=>ob (K5 1 (.I4 q31.1)) λT=>og (E5 3 t)<|some ([(R6 t),T],q31.2)) (ob (R.r Qi [(.undef,(.map i)),((I7 a),.val),(b,.val)] s) λq34=>ob (K5 0 (.I4 q34.1)) λS=>ob (K5 1 (.I4 q34.1)) λq=>ob (D7 .neq q (iI 0)) λQ=>F3 Q (some ([(.agg (Bz [])),q],q34.2)) (ob (R.r VL [(.undef,(.map i)),((I7 a),.val),(S,.val)] q34.2) λq38=>ob (K5 0 (.I4 q38.1)) λo=>ob (K5 1 (.I4 q38.1)) λP=>og (E5 3 o)<|some ([(R6 o),P],q38.2))))))))))))):=F6 [8]
def tX:GX R a s =
 (ob (D7 .sub (A7 0 a) (iI 2)) λy=>ob (D7 .add y (iI 1)) λx=>og (J7 x)<|some ([(.agg [x,(iI 0),(.list 3 [])]),(iI 0)],s)):=F6 [8]
def xV:C9.r Y8 [(.undef,(.map i)),(a,.val),(b,.val)] s=Ff C9 i a b s:=LU (s:=Jw) func37
def sw(x0:Nat)(x1 x2:DV)(sg:List H7){q:List DV×List H7}(h:Ff C9 x0 x1 x2 sg=some q):C9.r Y8 [(.undef,(.map x0)),(x1,.val),(x2,.val)] sg=some q:=(xV x0 x1 x2 sg).trans h
def A7U:=eP f38 UL R [] (I6 f38 [(a,.val),(b,.val)] [])
def jP:=eP f38 UL R (pb 7) (ms 153 [] [] [(2,bx a 20),(3,bx b 20)] [])
def Uv:=hP f38 UL R (pb 122) (ms 153 [(5,a)] [] [(2,bx b 20),(3,bx c 20)] [])
def SY:=hP f38 UL R (pb 250) (ms 153 [(6,a)] [] [(2,bx b 20),(3,bx c 20)] [])
def A5S:A7U R a b =
 (og (E5 20 a)<|og (E5 20 b)<|ob (D7 .neq (A7 0 a) (A7 0 b)) λx=>K3 x sF (ob (jk [.int,.int] (.agg [(A7 1 a),(A7 2 a)]) (.agg [(A7 1 b),(A7 2 b)])) λb2=>K3 (.bool !b2) sF (ob (D7 .neq (A7 3 a) (A7 3 b)) λy=>K3 y sF (ob (D7 .neq (A7 4 a) (A7 4 b)) λz=>K3 z sF (ob (D7 .neq (A7 5 a) (A7 5 b)) λw=>K3 w sF (ob (D7 .neq (A7 6 a) (A7 6 b)) λu=>K3 u sF (ob (D7 .neq (A7 7 a) (A7 7 b)) λv=>K3 v sF (ob (D7 .neq (A7 8 a) (A7 8 b)) λt=>K3 t sF (ob (A17 (A7 9 a) (A7 9 b)) λb9=>F3 (.bool !b9) sF (jP R a b)) none) none) none) none) none) none) none) none):=F6 [3]
def zq:jP R a b =
 (ob (L6 (A7 10 a)) λx=>ob (L6 (A7 10 b)) λy=>ob (D7 .neq x y) λz=>K3 z sF (ob (L6 (A7 18 a)) λw=>ob (L6 (A7 18 b)) λu=>ob (D7 .neq w u) λv=>K3 v sF (ob (R.p dB [(A7 17 a),(A7 17 b)]) λt=>ob (R8 .not t) λs=>K3 s sF (ob (R.p FF [(.agg [(A7 11 a),(A7 12 a),(A7 13 a)]),(.agg [(A7 11 b),(A7 12 b),(A7 13 b)])]) λr=>ob (R8 .not r) λq=>K3 q sF (ob (R.p FF [(.agg [(A7 14 a),(A7 15 a),(A7 16 a)]),(.agg [(A7 14 b),(A7 15 b),(A7 16 b)])]) λo=>ob (R8 .not o) λn=>F3 n sF (Uv R (iI 0) a b)) none) none) none) none):=F6 [3]
def ZC:Uv R a b c =
 (ob (L6 (A7 10 b)) λz=>ob (D7 .lss a z) λw=>F3 w (ob (F7 1 (A7 10 b) a) λx=>og (M7 x)<|ob (F7 1 (A7 10 c) a) λy=>og (M7 y)<|ob (D7 .neq x y) λu=>F3 u sF (ob (D7 .add a (iI 1)) λv=>Uv R v b c)) (SY R (iI 0) b c)):=J2 [3]
def Xa:SY R a b c =
 (ob (L6 (A7 18 b)) λz=>ob (D7 .lss a z) λw=>F3 w (ob (D7 .add a (iI 1)) λu=>ob (Cz 7 (A7 18 b) (some a) (some u)) λx=>og (J7 x)<|ob (D7 .add a (iI 1)) λv=>ob (Cz 7 (A7 18 c) (some a) (some v)) λy=>og (J7 y)<|ob (R.p WV [(.agg ((iI 14)::(Qe (cZ (Bz (Bz [x,(.list 16 [])])))))),(.agg ((iI 14)::(Qe (cZ (Bz (Bz [y,(.list 16 [])]))))))]) λt=>ob (R8 .not t) λs=>F3 s sF (ob (D7 .add a (iI 1)) λr=>SY R r b c)) sT):=J2 [3]
def A22:C9.p WY [a,b]=A7U C9 a b:=Q0 func38
def A4Z:=eP f39 A3i R [] (I6 f39 [(a,.val)] [])
def Qx:A4Z R a =
 (og (E5 3 a)<|ob (R.p qL [(.list 3 [(R6 a)])]) λx=>K3 x (ob (R.p FH [(R6 a)]) λy=>ob (D7 .leq y (iI 60)) λz=>some z) sF none):=F6 []
def PE:C9.p PX [a]=A4Z C9 a:=Q0 func39
end
end Go.Su

/-
 Equations of the program's functions: by program.
-/
namespace Go.Su
set_option linter.defProp false
set_option maxRecDepth 100000
noncomputable section
open Go.Proofs
open Tryz
variable (R: U1)(i j k l m n: Nat)(a b c d e f g h o p q r t u v w x y z: DV)(s: List H7)
def sH:=eP f40 Xk R [] (I6 f40 [(a,.val),(b,.val)] [])
def Mm:=hP f40 Xk R (pb 122) (ms 37 [(1,a),(5,b)] [] [(2,bx c 7)] [])
def QS:sH R a b =
 (og (E5 7 a)<|ob (ES (A7 5 a)) λx=>ob (D7 .gtr x (iI 300)) λy=>K3 y (some (iI 501)) (ob (ES (A7 3 a)) λz=>ob (D7 .gtr z (iI 300)) λw=>F3 w (some (iI 501)) (ob (D7 .add b (iI 1)) λu=>Mm R u (iI 0) a)) none):=F6 []
def Qy:Mm R a b c =
 (ob (L6 (A7 6 c)) λx=>ob (D7 .lss b x) λy=>K3 y (ob (D7 .leq a (iI 500)) λz=>F3 z (ob (F7 7 (A7 6 c) b) λw=>ob (R.p R_ [(IL w),a]) λu=>ob (D7 .add b (iI 1)) λv=>Mm R u v c) (some a)) (some a) none):=J2 []
def OY:C9.p R_ [a,b]=sH C9 a b:=Q0 func40
def A7S:=eP f41 rJ R [] (I6 f41 [(a,.val)] [])
def dH:=eP f41 rJ R (pb 966655) (ms 123 [(9,a)] [] [(1,bx b 20),(2,bv ((iI 0)::(iI 0)::(iI 0)::c::d::(iI 0)::e::(iI 0)::(Ue [(.list 20 [])]))),(4,bv (f::(iI 0)::(iI 0)::g::h::(iI 0)::o::(iI 0)::(Ue [(.list 20 [])])))] [])
def A5Q:A7S R a =
 (og (E5 20 a)<|og (J7 (A7 0 a))<|ob (D7 .eql (A7 0 a) (iI 1)) λx=>F3 x (og (J7 (A7 3 a))<|og (J7 (A7 17 a))<|some (.I4 [(.agg ((A7 0 a)::(iI 0)::(iI 0)::(A7 3 a)::(.str ⟨#[]⟩)::(cZ (zz9 (Bz (Bz [(A7 17 a),(.list 7 []),(.list 20 [])])))))),(iI 0)])) (ob (D7 .eql (A7 0 a) (iI 2)) λy=>F3 y (og (J7 (A7 5 a))<|some (.I4 [(.agg ((A7 0 a)::(Qe ((A7 5 a)::(.str ⟨#[]⟩)::(iI 0)::(Ue [(.list 20 [])]))))),(iI 0)])) (ob (D7 .eql (A7 0 a) (iI 3)) λz=>F3 z (og (J7 (A7 5 a))<|some (.I4 [(.agg ((A7 0 a)::(Qe ((A7 5 a)::(.str ⟨#[]⟩)::(iI 0)::(Ue [(.list 20 [])]))))),(iI 0)])) (ob (D7 .eql (A7 0 a) (iI 4)) λw=>
 F3 w (og (J7 (A7 6 a))<|some (.I4 [(.agg ((A7 0 a)::(Qe ((iI 0)::(A7 6 a)::(iI 0)::(Ue [(.list 20 [])]))))),(iI 0)])) (ob (D7 .eql (A7 0 a) (iI 5)) λu=>F3 u (some (.I4 [(.agg ((A7 0 a)::(EX []))),(iI 0)])) (ob (D7 .eql (A7 0 a) (iI 7)) λv=>F3 v (some (.I4 [(.agg ((A7 0 a)::(Qe (cZ (zz9 ((A7 11 a)::(A7 12 a)::(A7 13 a)::(Bz (B5s [])))))))),(iI 0)])) (ob (D7 .eql (A7 0 a) (iI 6)) λt=>F3 t (some (.I4 [(.agg ((A7 0 a)::(EX []))),(iI 2)])) (ob (D7 .eql (A7 0 a) (iI 8)) λs=>
 F3 s (some (.I4 [(.agg ((A7 0 a)::(EX []))),(iI 2)])) (ob (D7 .eql (A7 0 a) (iI 10)) λr=>F3 r (some (.I4 [(.agg ((A7 0 a)::(EX []))),(iI 2)])) (ob (D7 .eql (A7 0 a) (iI 9)) λq=>F3 q (og (J7 (A7 3 a))<|some (.I4 [(.agg ((A7 0 a)::(iI 0)::(iI 0)::(A7 3 a)::(.str ⟨#[]⟩)::(cZ (zz9 ((A7 11 a)::(A7 12 a)::(A7 13 a)::(Bz (B5s []))))))),(iI 1)])) (dH R (A7 0 a) a (.str ⟨#[]⟩) (.str ⟨#[]⟩) (.str ⟨#[]⟩) (A7 0 a) (.str ⟨#[]⟩) (.str ⟨#[]⟩) (.str ⟨#[]⟩)))))))))))):=F6 [25]
def uF:dH R a b c d e f g h o =
 (ob (D7 .eql a (iI 11)) λx=>F3 x (og (J7 (A7 3 b))<|og (J7 (A7 10 b))<|some (.I4 [(.agg (f::(iI 0)::(iI 0)::(A7 3 b)::h::(iI 0)::o::(iI 0)::(iI 0)::(.bool false)::(A7 10 b)::(Bz (Bz (B5s []))))),(iI 2)])) (ob (D7 .eql a (iI 12)) λy=>F3 y (og (J7 (A7 3 b))<|og (J7 (A7 4 b))<|og (J7 (A7 10 b))<|some (.I4 [(.agg (f::(iI 0)::(iI 0)::(A7 3 b)::(A7 4 b)::(iI 0)::o::(iI 0)::(iI 0)::(.bool false)::(A7 10 b)::(A7 11 b)::(A7 12 b)::(A7 13 b)::(A7 14 b)::(A7 15 b)::(A7 16 b)::(B5s []))),(iI 2)])) (ob (D7 .eql a (iI 13)) λz=>F3 z (some (.I4 [(.agg (f::(iI 0)::(iI 0)::g::h::(iI 0)::o::(iI 0)::(Ue [(.list 20 [])]))),(iI 3)])) (ob (D7 .eql a (iI 14)) λw=>
 F3 w (og (J7 (A7 18 b))<|ob (L6 (A7 18 b)) λu=>ob (D7 .add u (iI 1)) λv=>some (.I4 [(.agg (f::(A7 1 b)::(A7 2 b)::g::h::(iI 0)::o::(iI 0)::(zz9 (Bz (Bz [(.list 3 []),(A7 18 b),(.list 20 [])]))))),v])) (ob (D7 .eql a (iI 15)) λt=>F3 t (og (J7 (A7 7 b))<|some (.I4 [(.agg (f::(A7 1 b)::(A7 2 b)::g::h::(iI 0)::o::(A7 7 b)::(Ue [(.list 20 [])]))),(iI 2)])) (ob (D7 .eql a (iI 16)) λs=>F3 s (og (J7 (A7 8 b))<|og (J7 (A7 9 b))<|some (.I4 [(.agg (f::(iI 0)::(iI 0)::g::h::(iI 0)::o::(iI 0)::(A7 8 b)::(A7 9 b)::(.list 1 [])::(A7 11 b)::(A7 12 b)::(A7 13 b)::(A7 14 b)::(A7 15 b)::(A7 16 b)::(B5s []))),(iI 1)])) (some (.I4 [(.agg (f::(iI 0)::(iI 0)::g::h::(iI 0)::o::(iI 0)::(Ue [(.list 20 [])]))),(.int .i64 (-1))])))))))):=F6 [25]
def A20:C9.p wT [a]=A7S C9 a:=Q0 func41
def A47:=eP f42 lH R [] (I6 f42 [(a,.val)] [])
def KN:=hP f42 lH R (pb 58) (ms 45 [(3,a)] [] [(1,bx b 3)] [])
def A2n:A47 R a =
 (og (E5 3 a)<|ob (R.p gL [(A7 0 a)]) λx=>ob (L6 (A7 2 a)) λy=>ob (D7 .neq x y) λz=>K3 z sF (ob (D7 .lss (A7 1 a) (iI 0)) λw=>K3 w sF (ob (D7 .gtr (A7 1 a) (iI 1048576)) λu=>K3 u sF (ob (D7 .neq (A7 0 a) (iI 6)) λv=>K3 v (ob (D7 .neq (A7 1 a) (iI 0)) λt=>F3 t sF (KN R (iI 0) a)) (KN R (iI 0) a) none) none) none) none):=F6 []
def XQ:KN R a b =
 (ob (L6 (A7 2 b)) λx=>ob (D7 .lss a x) λy=>F3 y (ob (F7 3 (A7 2 b) a) λz=>ob (R.p GM [(R6 z)]) λw=>ob (R8 .not w) λu=>F3 u sF (ob (D7 .add a (iI 1)) λv=>KN R v b)) sT):=J2 []
def A0w:C9.p GM [a]=A47 C9 a:=Q0 func42
def sJ:=eP f43 Xm R [] (I6 f43 [(a,.val)] [])
def Mq:=hP f43 Xm R (pb 122) (ms 24 [(3,a),(4,b)] [] [] [])
def oC:sJ R a =
 (og (E5 7 a)<|ob (R.p nO [(IL a)]) λx=>ob (R8 .not x) λy=>F3 y sF (ob (R.p Tz [(IL a)]) λz=>Mq R z (iI 0))):=F6 []
def Q_:Mq R a b =
 (ob (L6 a) λy=>ob (D7 .lss b y) λz=>F3 z (ob (Cz 1 a none (some b)) λw=>ob (F7 1 a b) λx=>og (M7 x)<|ob (R.p Vs [w,x]) λu=>F3 u sF (ob (D7 .add b (iI 1)) λv=>Mq R a v)) sT):=J2 []
def kU:C9.p Yd [a]=sJ C9 a:=Q0 func43
def A7D:=eP f44 rC R [] (I6 f44 [(a,.val)] [])
def Ui:=hP f44 rC R (pb 58) (ms 32 [(0,a),(3,b)] [] [] [])
def A5D:A7D R a =
 (ob (ES a) λx=>ob (D7 .lss x (iI 1)) λy=>K3 y sF (ob (ES a) λz=>ob (D7 .gtr z (iI 32)) λw=>K3 w sF (ob (Af a (iI 0)) λu=>ob (R.p Tx [u]) λv=>ob (R8 .not v) λt=>F3 t sF (Ui R a (iI 0))) none) none):=F6 []
def Yu:Ui R a b =
 (ob (ES a) λx=>ob (D7 .lss b x) λy=>F3 y (ob (Af a b) λz=>ob (R.p wO [z]) λw=>ob (R8 .not w) λu=>F3 u sF (ob (D7 .add b (iI 1)) λv=>Ui R a v)) (ob (R.p A1p [a]) λt=>ob (R8 .not t) λs=>some s)):=J2 []
def A2M:C9.p Jg [a]=A7D C9 a:=Q0 func44
def B0K:=eP f45 xW R [] (I6 f45 [(a,.val),(b,.val)] [])
def Wu:=hP f45 xW R (pb 26) (ms 18 [(0,a),(1,b),(5,c)] [] [] [])
def A8A:B0K R a b =
 (Wu R a b (iI 0)):=F6 []
def dX:Wu R a b c =
 (ob (L6 a) λy=>ob (D7 .lss c y) λz=>F3 z (ob (F7 1 a c) λx=>og (M7 x)<|ob (D7 .eql x b) λw=>F3 w sT (ob (D7 .add c (iI 1)) λu=>Wu R a b u)) sF):=J2 []
def A56:C9.p Vs [a,b]=B0K C9 a b:=Q0 func45
def A7M:=eP f46 UJ R [] (I6 f46 [(a,.val),(b,.val)] [])
def Ul:=hP f46 UJ R (pb 28) (ms 47 [(0,a),(1,b),(5,c)] [] [] [])
def Wv:=eP f46 UJ R (pb 15) (ms 47 [(0,a),(1,b),(5,c)] [] [] [])
def Ww:=eP f46 UJ R (pb 31) (ms 47 [(0,a),(1,b),(5,c)] [] [] [])
def A5M:A7M R a b =
 (Ul R a b (iI 0)):=F6 [4,6]
def Yy:Ul R a b c =
 (ob (L6 a) λy=>ob (D7 .lss c y) λz=>K3 z (ob (F7 1 a c) λx=>og (M7 x)<|ob (D7 .lss x b) λw=>F3 w (ob (D7 .add c (iI 1)) λu=>Ul R a b u) (Wv R a b c)) (Wv R a b c) none):=J2 [4,6]
def zh:Wv R a b c =
 (ob (L6 a) λy=>ob (D7 .lss c y) λz=>K3 z (ob (F7 1 a c) λx=>og (M7 x)<|ob (D7 .eql x b) λw=>F3 w (some a) (Ww R a b c)) (Ww R a b c) none):=F6 [4,6]
def zi:Ww R a b c =
 (ob (Cz 1 a none (some c)) λx=>ob (AP 1 (.list 1 []) x) λy=>og (J7 b)<|ob (AP 1 y (.list 1 [b])) λz=>ob (Cz 1 a (some c) none) λw=>ob (AP 1 z w) λu=>some u):=F6 [4,6]
def A2V:C9.p wS [a,b]=A7M C9 a b:=Q0 func46
def A5c:=eP f47 lL R [] (I6 f47 [(a,.val),(b,.val)] [])
def Lb:=eP f47 lL R (pb 51) (ms 50 [(1,a)] [] [(2,bx b 20)] [])
def A2s:A5c R a b =
 (og (E5 20 a)<|ob (D7 .eql (A7 0 a) (iI 9)) λx=>F3 x (og (J7 (A7 3 a))<|some (.list 1 [(A7 3 a)])) (ob (D7 .eql (A7 0 a) (iI 11)) λy=>K3 y (ob (D7 .eql b (iI 1)) λz=>F3 z (og (J7 (A7 3 a))<|some (.list 1 [(A7 3 a)])) (ob (D7 .eql (A7 0 a) (iI 12)) λw=>K3 w (ob (D7 .eql b (iI 1)) λu=>F3 u (og (J7 (A7 3 a))<|some (.list 1 [(A7 3 a)])) (Lb R b a)) (Lb R b a) none)) (ob (D7 .eql (A7 0 a) (iI 12)) λv=>K3 v (ob (D7 .eql b (iI 1)) λt=>F3 t (og (J7 (A7 3 a))<|some (.list 1 [(A7 3 a)])) (Lb R b a)) (Lb R b a) none) none)):=F6 [5]
def uB:Lb R a b =
 (ob (D7 .eql (A7 0 b) (iI 12)) λx=>F3 x (og (J7 (A7 3 b))<|og (J7 (A7 4 b))<|some (.list 1 [(A7 3 b),(A7 4 b)])) (ob (D7 .eql (A7 0 b) (iI 14)) λy=>K3 y (ob (D7 .gtr a (iI 0)) λz=>F3 z (ob (D7 .sub a (iI 1)) λw=>ob (F7 7 (A7 18 b) w) λu=>ob (R.p Tz [(IL u)]) λv=>some v) (some (.list 1 []))) (some (.list 1 [])) none)):=F6 [5]
def A0B:C9.p T_ [a,b]=A5c C9 a b:=Q0 func47
def nS:=eP f48 Vf R [] (I6 f48 [(a,.val),(b,.val)] [])
def Dy:=hP f48 Vf R (pb 58) (ms 27 [(1,a),(5,b)] [] [(2,bx c 20)] [])
def kE:nS R a b =
 (og (E5 20 a)<|ob (D7 .add b (iI 1)) λx=>Dy R x (iI 0) a):=F6 []
def LG:Dy R a b c =
 (ob (L6 (A7 19 c)) λx=>ob (D7 .lss b x) λy=>K3 y (ob (D7 .leq a (iI 1200)) λz=>F3 z (ob (F7 20 (A7 19 c) b) λw=>ob (R.p Lj [(I7 w),a]) λu=>ob (D7 .add b (iI 1)) λv=>Dy R u v c) (some a)) (some a) none):=J2 []
def fq:C9.p Lj [a,b]=nS C9 a b:=Q0 func48
def jQ:=eP f49 Mv R [] (I6 f49 [(a,.val),(b,.val)] [])
def Be:=hP f49 Mv R (pb 58) (ms 51 [(1,a),(5,b)] [] [(2,bx c 20)] [])
def Av:=hP f49 Mv R (pb 122) (ms 51 [(1,a),(6,b)] [] [(2,bx c 20)] [])
def fU:jQ R a b =
 (og (E5 20 a)<|ob (R.p Ef [(.agg [(A7 11 a),(A7 12 a),(A7 13 a)]),b]) λx=>ob (R.p Ef [(.agg [(A7 14 a),(A7 15 a),(A7 16 a)]),x]) λy=>Be R y (iI 0) a):=F6 []
def Jm:Be R a b c =
 (ob (L6 (A7 17 c)) λx=>ob (D7 .lss b x) λy=>K3 y (ob (D7 .leq a (iI 20000)) λz=>F3 z (ob (F7 3 (A7 17 c) b) λw=>ob (R.p Ef [(R6 w),a]) λu=>ob (D7 .add b (iI 1)) λv=>Be R u v c) (Av R a (iI 0) c)) (Av R a (iI 0) c) none):=J2 []
def Jn:Av R a b c =
 (ob (L6 (A7 19 c)) λx=>ob (D7 .lss b x) λy=>K3 y (ob (D7 .leq a (iI 20000)) λz=>F3 z (ob (F7 20 (A7 19 c) b) λw=>ob (R.p KY [(I7 w),a]) λu=>ob (D7 .add b (iI 1)) λv=>Av R u v c) (some a)) (some a) none):=J2 []
def bI:C9.p KY [a,b]=jQ C9 a b:=Q0 func49
def A1H:=eP f50 A0U R [] (I6 f50 [(a,.val)] [])
def zy:A1H R a =
 (og (E5 3 a)<|ob (R.p jC [(R6 a)]) λx=>ob (K5 0 x) λy=>ob (K5 1 x) λz=>og (E5 3 y)<|K3 z (ob (R.p FF [(R6 y),(R6 a)]) λw=>some w) sF none):=F6 []
def uo:C9.p jF [a]=A1H C9 a:=Q0 func50
def B0Q:=eP f51 xY R [] (I6 f51 [(a,.val)] [])
def Aw:=hP f51 xY R (pb 122) (ms 30 [(3,a),(4,b)] [] [(1,bx c 20)] [])
def A8G:B0Q R a =
 (og (E5 20 a)<|ob (D7 .eql (A7 0 a) (iI 6)) λx=>F3 x (Aw R (iI 2) (iI 0) a) (ob (D7 .eql (A7 0 a) (iI 8)) λy=>F3 y (Aw R (iI 2) (iI 0) a) (ob (D7 .eql (A7 0 a) (iI 10)) λz=>F3 z (Aw R (iI 2) (iI 0) a) (ob (D7 .eql (A7 0 a) (iI 15)) λw=>F3 w (Aw R (iI 2) (iI 0) a) (ob (D7 .eql (A7 0 a) (iI 11)) λu=>F3 u (Aw R (iI 1) (iI 0) a) (ob (D7 .eql (A7 0 a) (iI 13)) λv=>F3 v (Aw R (iI 1) (iI 0) a) (ob (D7 .eql (A7 0 a) (iI 14)) λt=>F3 t (Aw R (iI 1) (iI 0) a) (ob (D7 .eql (A7 0 a) (iI 16)) λs=>F3 s (Aw R (iI 1) (iI 0) a) (Aw R (iI 0) (iI 0) a))))))))):=F6 []
def ZH:Aw R a b c =
 (ob (D7 .lss b a) λx=>F3 x (ob (F7 20 (A7 19 c) b) λy=>ob (R.p FI [(I7 y)]) λz=>ob (R8 .not z) λw=>F3 w (some b) (ob (D7 .add b (iI 1)) λu=>Aw R a u c)) (some (.int .i64 (-1)))):=J2 []
def A6c:C9.p A1s [a]=B0Q C9 a:=Q0 func51
def A5f:=eP f52 A3q R [] (I6 f52 [(a,.val),(b,.val)] [])
def A2v:A5f R a b =
 (og (E5 20 a)<|og (E5 20 b)<|ob (D7 .eql (A7 0 a) (iI 9)) λq=>F3 q (ob (F7 20 (A7 19 a) (iI 0)) λo=>ob (R.p Vt [(I7 o),(A7 3 a),(.list 1 []),(I7 b)]) λy=>ob (K5 0 y) λz=>ob (K5 1 y) λw=>og (E5 20 z)<|og (E5 15 w)<|some (.I4 [(I7 z),(AO w)])) (ob (D7 .neq (A7 0 a) (iI 16)) λn=>K3 n (ob (R.p Am []) λu=>og (E5 15 u)<|some (.I4 [(.agg ((iI 0)::(EX []))),(AO u)])) (ob (D7 .neq (A7 11 a) (iI 9)) λm=>K3 m (ob (R.p Am []) λv=>og (E5 15 v)<|some (.I4 [(.agg ((iI 0)::(EX []))),(AO v)])) (ob (D7 .neq (A7 14 a) (iI 9)) λl=>
 F3 l (ob (R.p Am []) λt=>og (E5 15 t)<|some (.I4 [(.agg ((iI 0)::(EX []))),(AO t)])) (ob (F7 3 (A7 16 a) (iI 0)) λk=>ob (F7 3 (A7 13 a) (iI 0)) λj=>ob (R.p Jh [(I7 a),(R6 k),(R6 j),(I7 b)]) λx=>og (E5 20 x)<|ob (R8 .not (A7 9 a)) λs=>og (J7 s)<|ob (F7 20 (A7 19 a) (iI 0)) λi=>ob (F7 3 (A7 13 a) (iI 1)) λh=>ob (F7 3 (A7 16 a) (iI 1)) λg=>ob (R.p Jh [(I7 a),(R6 h),(R6 g),(.agg ((iI 10)::(Qe (cZ (Ue [(.list 20 [(I7 i),(.agg [(A7 0 x),(A7 1 x),(A7 2 x),(A7 3 x),(A7 4 x),(A7 5 x),(A7 6 x),(A7 7 x),(A7 8 x),s,(A7 10 x),(A7 11 x),(A7 12 x),(A7 13 x),(A7 14 x),(A7 15 x),(A7 16 x),(A7 17 x),(A7 18 x),(A7 19 x)])])])))))]) λr=>
 og (E5 20 r)<|some (.I4 [(I7 r),(.agg ((iI 0)::(Dk [])))]))) none) none)):=F6 []
def A0E:C9.p qR [a,b]=A5f C9 a b:=Q0 func52
def B0R:=eP f53 A8U R [] (I6 f53 [(a,.val),(b,.val),(c,.val),(d,.val)] [])
def A8H:B0R R a b c d =
 (og (E5 20 a)<|og (E5 20 d)<|ob (R.p A1q [(I7 a),b,c,(I7 d)]) λx=>ob (K5 0 x) λy=>ob (K5 1 x) λw=>og (E5 20 y)<|ob (D7 .neq w (iI 0)) λu=>F3 u (ob (R.p Am []) λz=>og (E5 15 z)<|some (.I4 [(.agg ((iI 0)::(EX []))),(AO z)])) (some (.I4 [(I7 y),(.agg ((iI 0)::(Dk [])))]))):=F6 []
def A6d:C9.p Vt [a,b,c,d]=B0R C9 a b c d:=Q0 func53
end
end Go.Su

/-
 Equations of the program's functions: by program.
-/
namespace Go.Su
set_option linter.defProp false
noncomputable section
open Go.Proofs
open Tryz
variable (R: U1)(k m n: Nat)(a b c d e f g h o p q r t u v w x y z C P: DV)(s: List H7)
def zL:=eP f54 Sm R [] (I6 f54 [(a,.val),(b,.val),(c,.val)] [])
def QH:=eP f54 Sm R (pb 15) (ms 62 [(8,a)] [] [(3,bx b 20),(4,bx c 20),(5,bx d 20),(6,some MR),(7,some Ck)] [])
def QI:=eP f54 Sm R (pb 127) (ms 62 [] [] [(3,bx a 20),(4,bx b 20),(5,bx c 20),(6,some MR),(7,some Ck),(9,bv (d::(EX [])))] [])
def uK:zL R a b c =
 (og (E5 20 a)<|og (E5 20 b)<|og (E5 20 c)<|ob (D7 .eql (A7 7 a) (iI 7)) λx=>F3 x (QH R (iI 4) a b c) (QH R (iI 2) a b c)):=F6 [4,9]
def kG:QH R a b c d =
 (ob (D7 .neq (A7 0 c) a) λz=>K3 z (ob (R.p Am []) λx=>og (E5 15 x)<|some (.I4 [(.agg ((iI 0)::(EX []))),(AO x)])) (ob (D7 .neq (A7 0 d) a) λw=>F3 w (ob (R.p Am []) λy=>og (E5 15 y)<|some (.I4 [(.agg ((iI 0)::(EX []))),(AO y)])) (ob (D7 .geq (A7 7 b) (iI 5)) λu=>F3 u (QI R b c d (iI 3)) (QI R b c d (iI 2)))) none):=F6 [4,9]
def kH:QI R a b c d =
 (ob (R.p A6N [(A7 7 a),(A7 5 b),(A7 5 c)]) λx=>ob (K5 0 x) λy=>ob (K5 1 x) λw=>ob (R8 .not w) λu=>F3 u (some (.I4 [(.agg ((iI 0)::(EX []))),(.agg ((iI 3)::(qI [(iI 0),(.bool false),(A7 1 a),(A7 2 a),(iI 0)])))])) (og (J7 y)<|ob (D7 .eql (A7 7 a) (iI 7)) λv=>F3 v (ob (D7 .eql (A7 6 b) (A7 6 c)) λt=>ob (R.p PZ [t]) λz=>og (J7 z)<|some (.I4 [(.agg (d::(Qe (z::(.str ⟨#[]⟩)::(iI 0)::(Ue [(.list 20 [])]))))),(.agg ((iI 0)::(Dk [])))])) (some (.I4 [(.agg (d::(Qe (y::(.str ⟨#[]⟩)::(iI 0)::(Ue [(.list 20 [])]))))),(.agg ((iI 0)::(Dk [])))])))):=F6 [4,9]
def ol:C9.p dD [a,b,c]=zL C9 a b c:=Q0 func54
def A1G:=eP f55 PH R [] (I6 f55 [(a,.val)] [])
def W_:=hP f55 PH R (pb 26) (ms 79 [(4,a)] [] [(1,bx b 20),(2,some MR),(3,some Ck)] [])
def OL:=hP f55 PH R (pb 26) (ms 79 [(4,a)] [] [(1,bx b 20),(2,some MR),(3,some Ck)] s)
def Kc:=hP f55 PH R (pb 53882) (ms 79 [(5,a),(9,b)] [] [(2,some MR),(3,some Ck),(8,bx c 20)] s)
def zw:A1G R a =
 (og (E5 20 a)<|W_ R (iI 0) a):=F6 []
def kD:W_ R a b =
 (ob (L6 (A7 18 b)) λy=>ob (D7 .lss a y) λz=>F3 z (ob (F7 7 (A7 18 b) a) λw=>ob (F7 20 (A7 19 b) (iI 0)) λu=>ob (R.r Ll [((IL w),.val),((I7 u),.val),((.list 21 []),.own)] []) λq5=>ob (K5 0 (.I4 q5.1)) λv=>ob (K5 1 (.I4 q5.1)) λt=>ob (K5 2 (.I4 q5.1)) λx=>og (E5 15 x)<|ob (D7 .neq (A7 0 x) (iI 0)) λs=>F3 s (some (.I4 [(.agg ((iI 0)::(EX []))),(AO x)])) (ob (R8 .not t) λq=>F3 q (ob (D7 .add a (iI 1)) λp=>OL R p b q5.2) (ob (D7 .add a (iI 1)) λo=>ob (F7 20 (A7 19 b) o) λn=>Kc R v (iI 0) n q5.2))) (some (.I4 [(.agg ((iI 0)::(EX []))),(.agg ((iI 4)::(qI [(iI 0),(.bool false),(A7 1 b),(A7 2 b),(iI 0)])))]))):=J2 []
def Tk:OL R a b s =
 (ob (L6 (A7 18 b)) λy=>ob (D7 .lss a y) λz=>F3 z (ob (F7 7 (A7 18 b) a) λw=>ob (F7 20 (A7 19 b) (iI 0)) λu=>ob (R.r Ll [((IL w),.val),((I7 u),.val),((.list 21 []),.own)] s) λq5=>ob (K5 0 (.I4 q5.1)) λv=>ob (K5 1 (.I4 q5.1)) λt=>ob (K5 2 (.I4 q5.1)) λx=>og (E5 15 x)<|ob (D7 .neq (A7 0 x) (iI 0)) λq=>F3 q (some (.I4 [(.agg ((iI 0)::(EX []))),(AO x)])) (ob (R8 .not t) λp=>F3 p (ob (D7 .add a (iI 1)) λo=>OL R o b q5.2) (ob (D7 .add a (iI 1)) λn=>ob (F7 20 (A7 19 b) n) λm=>Kc R v (iI 0) m q5.2))) (some (.I4 [(.agg ((iI 0)::(EX []))),(.agg ((iI 4)::(qI [(iI 0),(.bool false),(A7 1 b),(A7 2 b),(iI 0)])))]))):=J2 []
def Tg:Kc R a b c s =
 (ob (L6 a) λu=>ob (D7 .lss b u) λv=>F3 v (ob (F7 21 a b) λt=>ob (F7 21 a b) λx=>ob (R.p Vt [(I7 c),(A7 0 t),(.list 1 []),(.agg [(A7 1 x),(A7 2 x),(A7 3 x),(A7 4 x),(A7 5 x),(A7 6 x),(A7 7 x),(A7 8 x),(A7 9 x),(A7 10 x),(A7 11 x),(A7 12 x),(A7 13 x),(A7 14 x),(A7 15 x),(A7 16 x),(A7 17 x),(A7 18 x),(A7 19 x),(A7 20 x)])]) λw=>ob (K5 0 w) λy=>ob (K5 1 w) λz=>og (E5 20 y)<|og (E5 15 z)<|ob (D7 .neq (A7 0 z) (iI 0)) λr=>F3 r (some (.I4 [(I7 y),(AO z)])) (ob (D7 .add b (iI 1)) λq=>Kc R a q y s)) (some (.I4 [(I7 c),(.agg ((iI 0)::(Dk [])))]))):=J2 []
def um:C9.p jE [a]=A1G C9 a:=Q0 func55
def A1J:=eP f56 VG R [] (I6 f56 [(a,.val),(b,.val)] [])
def Yi:=eP f56 VG R (pb 115) (ms 102 [] [] [(2,bx a 20),(3,bx b 20),(4,some MR),(5,some Ck),(6,bv [c,d,e]),(7,bv [f,g,h])] [])
def XA:=eP f56 VG R (pb 463) (ms 102 [] [] [(2,bx a 20),(3,bx b 20),(4,some MR),(5,some Ck),(6,bv [c,d,e]),(7,bv [f,g,h])] [])
def z_:A1J R a b =
 (og (E5 20 a)<|og (E5 20 b)<|ob (L6 (A7 13 a)) λx=>ob (D7 .eql x (iI 0)) λy=>K3 y (ob (R.p FF [(.agg [(A7 11 a),(A7 12 a),(A7 13 a)]),(.agg [(A7 14 a),(A7 15 a),(A7 16 a)])]) λz=>F3 z (some (.I4 [(I7 b),(.agg ((iI 0)::(Dk [])))])) (Yi R a b (A7 11 a) (A7 12 a) (A7 13 a) (A7 14 a) (A7 15 a) (A7 16 a))) (Yi R a b (A7 11 a) (A7 12 a) (A7 13 a) (A7 14 a) (A7 15 a) (A7 16 a)) none):=F6 [4,13]
set_option maxRecDepth 100000 in
def oI:Yi R a b c d e f g h =
 (ob (D7 .eql c (iI 5)) λu=>K3 u (ob (D7 .neq f (iI 6)) λv=>F3 v (ob (R.p jD [f]) λx=>og (E5 3 x)<|ob (R.p FF [(R6 x),(.agg [f,g,h])]) λt=>ob (R8 .not t) λs=>F3 s (ob (R.p Jh [(I7 a),(.agg [c,d,e]),(R6 x),(I7 b)]) λr=>ob (R.p Jh [(I7 a),(R6 x),(.agg [f,g,h]),r]) λy=>og (E5 20 y)<|some (.I4 [(I7 y),(.agg ((iI 0)::(Dk [])))])) (ob (D7 .neq (A7 0 b) (iI 16)) λq=>K3 q (ob (R.p Am []) λz=>og (E5 15 z)<|some (.I4 [(.agg ((iI 0)::(EX []))),(AO z)])) (ob (D7 .neq (A7 14 b) (iI 5)) λo=>
 F3 o (ob (R.p Am []) λw=>og (E5 15 w)<|some (.I4 [(.agg ((iI 0)::(EX []))),(AO w)])) (ob (R.p FF [(.agg [(A7 11 b),(A7 12 b),(A7 13 b)]),(R6 x)]) λn=>F3 n (ob (F7 20 (A7 19 b) (iI 0)) λm=>some (.I4 [(I7 m),(.agg ((iI 0)::(Dk [])))])) (og (J7 (A7 8 a))<|og (J7 (A7 9 a))<|some (.I4 [(.agg ((iI 0)::(EX []))),(.agg ((iI 2)::(qI [(A7 8 a),(A7 9 a),(iI 0),(iI 0),(iI 0)])))])))) none)) (XA R a b c d e f g h)) (XA R a b c d e f g h) none):=F6 [4,13]
def VU:XA R a b c d e f g h =
 (ob (D7 .eql f (iI 5)) λu=>K3 u (ob (D7 .neq c (iI 6)) λv=>F3 v (ob (R.p jD [c]) λx=>og (E5 3 x)<|ob (R.p Jh [(I7 a),(.agg [c,d,e]),(R6 x),(I7 b)]) λt=>ob (R.p Jh [(I7 a),(R6 x),(.agg [f,g,h]),t]) λy=>og (E5 20 y)<|some (.I4 [(I7 y),(.agg ((iI 0)::(Dk [])))])) (ob (R.p Am []) λz=>og (E5 15 z)<|some (.I4 [(.agg ((iI 0)::(EX []))),(AO z)]))) (ob (R.p Am []) λw=>og (E5 15 w)<|some (.I4 [(.agg ((iI 0)::(EX []))),(AO w)])) none):=F6 [4,13]
def ut:C9.p jG [a,b]=A1J C9 a b:=Q0 func56
def wY:=eP f57 A6q R [] (I6 f57 [] [])
def A5X:wY R =
 (some (.agg ((iI 6)::(Dk [])))):=F6 []
def A27:C9.p Am []=wY C9:=Q0 func57
def B18{d:DV}(h:wY C9=some d):C9.p Am []=some d:=(A27).trans h
def A5j:Option DV:=UI cfg R Xr (C1P cfg R Xr RS Gv.post (Vp cfg.P f58)) [] (Nq Gv.pre .skip) (I6 f58 [(a,.val)] [])
def A2y:A5j R a =
 (og (E5 20 a)<|ob (R.p Qj [(I7 a)]) λx=>ob (R8 .not x) λy=>F3 y (some (.list 1 [])) (oc (R.r Pd [((I7 a),.val),(.undef,(.map 1)),(.undef,(.map 0))] [.map true [],.map true []]) λq3 s3=>ob (X0 s3 0) λm4=>og (m4.1&&true&&true)<|if m4.2.length<=J9 then(some (Om m4.2))else none)):=F6 []
def A0H:C9.p Zv [a]=A5j C9 a :=(C3A (C:=cfg) (f:=Zv) (fn:=f58) (c:=Z7) (p:=Gv) rfl func58 (by kernel_rfl)).trans ((congrArg (λk=>UI cfg C9 Xr k [] (Nq Gv.pre .skip) (I6 f58 ([a].map λd=>(d,.val)) [])) (C3N (q:=RS) (p:=Gv) (by kernel_rfl))).trans (by kernel_rfl))
def zA:=eP f59 vI R [] (I6 f59 [(a,.val)] [])
set_option maxRecDepth 100000 in
def tQ:zA R a =
 (og (E5 20 a)<|ob (D7 .eql (A7 14 a) (iI 5)) λx=>F3 x (ob (R.p WQ [(.agg [(A7 11 a),(A7 12 a),(A7 13 a)])]) λy=>some y) (ob (D7 .neq (A7 11 a) (A7 14 a)) λz=>F3 z sF (ob (D7 .eql (A7 11 a) (iI 7)) λw=>K3 w sT (ob (D7 .eql (A7 11 a) (iI 8)) λu=>K3 u sT (ob (D7 .eql (A7 11 a) (iI 9)) λv=>some v) none) none))):=F6 []
def oO:C9.p dA [a]=zA C9 a:=Q0 func59
def A4P:=eP f60 A3f R [] (I6 f60 [(a,.val)] [])
def A2c:A4P R a =
 (ob (D7 .eql a (iI 6)) λx=>F3 x (some (iI 2)) (ob (D7 .eql a (iI 8)) λy=>F3 y (some (iI 2)) (ob (D7 .eql a (iI 10)) λz=>F3 z (some (iI 2)) (ob (D7 .eql a (iI 15)) λw=>F3 w (some (iI 2)) (ob (D7 .eql a (iI 11)) λu=>F3 u (some (iI 1)) (ob (D7 .eql a (iI 13)) λv=>F3 v (some (iI 1)) (ob (D7 .eql a (iI 14)) λt=>F3 t (some (iI 1)) (ob (D7 .eql a (iI 16)) λs=>F3 s (some (iI 1)) (some (iI 0)))))))))):=F6 []
def A0o:C9.p qJ [a]=A4P C9 a:=Q0 func60
end
end Go.Su

/-
 Equations of the program's functions: by program.
-/
namespace Go.Su
set_option linter.defProp false
noncomputable section
open Go.Proofs
open Tryz
variable (R: U1)(i j k l m n: Nat)(a b c d e f g h o p q r t u v w x y z A B W X Y Z: DV)(s: List H7)
def A7x:=eP f62 qz R [] (I6 f62 [(a,.val),(b,.val)] [])
def Ql:=eP f62 qz R (pb 58) (ms 78 [] [] [(4,some MR),(5,some Ck)] [])
set_option maxRecDepth 100000 in
def A5z:A7x R a b =
 (og (E5 20 a)<|og (E5 20 b)<|ob (D7 .eql (A7 0 a) (iI 9)) λv=>F3 v (ob (F7 20 (A7 19 a) (iI 0)) λt=>ob (R.p Rz [(I7 t),(A7 3 a),(.list 1 []),(I7 b)]) λx=>ob (K5 0 x) λy=>ob (K5 1 x) λz=>og (E5 20 y)<|og (E5 15 z)<|some (.I4 [(I7 y),(AO z)])) (ob (D7 .neq (A7 0 a) (iI 16)) λs=>K3 s (Ql R) (ob (D7 .neq (A7 11 a) (iI 9)) λr=>K3 r (Ql R) (ob (D7 .neq (A7 14 a) (iI 9)) λq=>F3 q (Ql R) (ob (R8 .not (A7 9 a)) λo=>ob (F7 3 (A7 16 a) (iI 0)) λn=>ob (F7 3 (A7 13 a) (iI 0)) λm=>ob (R.p Eu [(I7 a),o,(R6 n),(R6 m),(I7 b)]) λw=>og (E5 20 w)<|ob (F7 20 (A7 19 a) (iI 0)) λl=>ob (F7 3 (A7 13 a) (iI 1)) λk=>ob (F7 3 (A7 16 a) (iI 1)) λj=>ob (R.p Eu [(I7 a),(A7 9 a),(R6 k),(R6 j),(.agg ((iI 10)::(Qe (cZ (Ue [(.list 20 [(I7 l),(I7 w)])])))))]) λu=>
 og (E5 20 u)<|some (.I4 [(I7 u),(.agg ((iI 0)::(Dk [])))]))) none) none)):=F6 [4]
def zV:Ql R =
 (ob (R.p Bu []) λx=>ob (K5 0 x) λy=>ob (K5 1 x) λz=>og (E5 20 y)<|og (E5 15 z)<|some (.I4 [(I7 y),(AO z)])):=F6 [4]
def A2H:C9.p wM [a,b]=A7x C9 a b:=Q0 func62
def A7y:=eP f63 A6e R [] (I6 f63 [(a,.val),(b,.val),(c,.val),(d,.val)] [])
def A5A:A7y R a b c d =
 (og (E5 20 a)<|og (E5 20 d)<|ob (R.p wU [(I7 a),b,c,(I7 d)]) λx=>ob (K5 0 x) λy=>ob (K5 1 x) λv=>og (E5 20 y)<|ob (D7 .neq v (iI 0)) λt=>F3 t (ob (R.p Bu []) λz=>ob (K5 0 z) λw=>ob (K5 1 z) λu=>og (E5 20 w)<|og (E5 15 u)<|some (.I4 [(I7 w),(AO u)])) (some (.I4 [(I7 y),(.agg ((iI 0)::(Dk [])))]))):=F6 []
def A2I:C9.p Rz [a,b,c,d]=A7y C9 a b c d:=Q0 func63
def A7z:=eP f64 q_ R [] (I6 f64 [(a,.val)] [])
def Wq:=eP f64 q_ R (pb 15) (ms 46 [] [] [(1,bx a 20),(2,some MR),(3,some Ck),(4,bv [b,c,d,e,f,g,h,o,p,q,r,t,u,v,w,x,y,z,A,B])] [])
def A5B:A7z R a =
 (og (E5 20 a)<|ob (F7 20 (A7 19 a) (iI 0)) λx=>ob (D7 .neq (A7 3 a) (A7 4 a)) λy=>F3 y (og (J7 (A7 3 a))<|og (J7 (A7 4 a))<|Wq R a (iI 12) (iI 0) (iI 0) (A7 3 a) (A7 4 a) (iI 0) (.str ⟨#[]⟩) (iI 0) (iI 0) (.bool false) (.list 1 []) (A7 11 a) (A7 12 a) (A7 13 a) (A7 14 a) (A7 15 a) (A7 16 a) (.list 3 []) (.list 7 []) (.list 20 [(I7 x),(I7 x)])) (Wq R a (A7 0 x) (A7 1 x) (A7 2 x) (A7 3 x) (A7 4 x) (A7 5 x) (A7 6 x) (A7 7 x) (A7 8 x) (A7 9 x) (A7 10 x) (A7 11 x) (A7 12 x) (A7 13 x) (A7 14 x) (A7 15 x) (A7 16 x) (A7 17 x) (A7 18 x) (A7 19 x))):=F6 [4]
def za:Wq R a b c d e f g h o p q r t u v w x y z A B =
 (og (J7 (A7 4 a))<|ob (F7 20 (A7 19 a) (iI 1)) λl=>ob (R.p Rz [(I7 l),(A7 3 a),(A7 10 a),(.agg ((iI 9)::(iI 0)::(iI 0)::(A7 4 a)::(.str ⟨#[]⟩)::(cZ (zz9 ((A7 11 a)::(A7 12 a)::(A7 13 a)::(Bz [(.list 3 []),(.list 7 []),(.list 20 [(.agg [b,c,d,e,f,g,h,o,p,q,r,t,u,v,w,x,y,z,A,B])])]))))))]) λs=>ob (K5 0 s) λn=>ob (K5 1 s) λm=>og (E5 20 n)<|og (E5 15 m)<|some (.I4 [(I7 n),(AO m)])):=F6 [4]
def A2J:C9.p wN [a]=A7z C9 a:=Q0 func64
def jM:=eP f65 A0P R [] (I6 f65 [] [])
def zb:jM R =
 (some (.I4 [(.agg ((iI 0)::(EX []))),(.agg ((iI 6)::(Dk [])))])):=F6 []
def uY:C9.p Bu []=jM C9:=Q0 func65
def A8j{d:DV}(h:jM C9=some d):C9.p Bu []=some d:=(uY).trans h
def sG:=eP f66 Xj R [] (I6 f66 [(a,.val),(b,.val),(c,.val)] [])
def OC:=eP f66 Xj R (pb 15) (ms 92 [(8,a)] [] [(3,bx b 20),(4,bx c 20),(5,bx d 20),(6,some MR),(7,some Ck)] [])
def nz:sG R a b c =
 (og (E5 20 a)<|og (E5 20 b)<|og (E5 20 c)<|ob (D7 .eql (A7 7 a) (iI 7)) λx=>F3 x (OC R (iI 4) a b c) (OC R (iI 2) a b c)):=F6 [4]
set_option maxRecDepth 100000 in
def fJ:OC R a b c d =
 (ob (D7 .neq (A7 0 c) a) λl=>K3 l (ob (R.p Bu []) λx=>ob (K5 0 x) λy=>ob (K5 1 x) λz=>og (E5 20 y)<|og (E5 15 z)<|some (.I4 [(I7 y),(AO z)])) (ob (D7 .neq (A7 0 d) a) λk=>F3 k (ob (R.p Bu []) λw=>ob (K5 0 w) λu=>ob (K5 1 w) λv=>og (E5 20 u)<|og (E5 15 v)<|some (.I4 [(I7 u),(AO v)])) (ob (D7 .eql (A7 7 b) (iI 1)) λj=>F3 j (ob (D7 .add (A7 5 c) (A7 5 d)) λt=>og (J7 t)<|some (.I4 [(.agg ((iI 2)::(Qe (t::(.str ⟨#[]⟩)::(iI 0)::(Ue [(.list 20 [])]))))),(.agg ((iI 0)::(Dk [])))])) (ob (D7 .eql (A7 7 b) (iI 2)) λi=>F3 i (ob (D7 .sub (A7 5 c) (A7 5 d)) λs=>
 og (J7 s)<|some (.I4 [(.agg ((iI 2)::(Qe (s::(.str ⟨#[]⟩)::(iI 0)::(Ue [(.list 20 [])]))))),(.agg ((iI 0)::(Dk [])))])) (ob (D7 .eql (A7 7 b) (iI 3)) λh=>F3 h (ob (D7 .mul (A7 5 c) (A7 5 d)) λr=>og (J7 r)<|some (.I4 [(.agg ((iI 2)::(Qe (r::(.str ⟨#[]⟩)::(iI 0)::(Ue [(.list 20 [])]))))),(.agg ((iI 0)::(Dk [])))])) (ob (D7 .eql (A7 7 b) (iI 4)) λg=>
 F3 g (ob (D7 .eql (A7 5 d) (iI 0)) λf=>F3 f (some (.I4 [(.agg ((iI 0)::(EX []))),(.agg ((iI 3)::(qI [(iI 0),(.bool false),(A7 1 b),(A7 2 b),(iI 0)])))])) (ob (D7 .quo (A7 5 c) (A7 5 d)) λq=>og (J7 q)<|some (.I4 [(.agg ((iI 2)::(Qe (q::(.str ⟨#[]⟩)::(iI 0)::(Ue [(.list 20 [])]))))),(.agg ((iI 0)::(Dk [])))]))) (ob (D7 .eql (A7 7 b) (iI 5)) λe=>
 F3 e (ob (D7 .lss (A7 5 c) (A7 5 d)) λX=>ob (R.p ND [X]) λo=>og (E5 20 o)<|some (.I4 [(I7 o),(.agg ((iI 0)::(Dk [])))])) (ob (D7 .eql (A7 7 b) (iI 6)) λY=>F3 Y (ob (D7 .eql (A7 5 c) (A7 5 d)) λZ=>ob (R.p ND [Z]) λn=>og (E5 20 n)<|some (.I4 [(I7 n),(.agg ((iI 0)::(Dk [])))])) (ob (D7 .eql (A7 6 c) (A7 6 d)) λW=>ob (R.p ND [W]) λm=>og (E5 20 m)<|some (.I4 [(I7 m),(.agg ((iI 0)::(Dk [])))]))))))))) none):=F6 [4]
def kT:C9.p Yc [a,b,c]=sG C9 a b c:=Q0 func66
def A1w:=eP f67 PG R [] (I6 f67 [(a,.val)] [])
def Wo:=hP f67 PG R (pb 26) (ms 81 [(14,a),(15,b),(16,c)] [] [(1,bx d 20),(2,some MR),(3,some Ck)] [])
def OB:=hP f67 PG R (pb 26) (ms 81 [(14,a),(15,b),(16,c)] [] [(1,bx d 20),(2,some MR),(3,some Ck)] s)
def KZ:=hP f67 PG R (pb 432634) (ms 81 [(52,a),(53,b),(54,c)] [] [(2,some MR),(3,some Ck),(8,bx d 20)] s)
def zY:A1w R a =
 (og (E5 20 a)<|ob (L6 (A7 18 a)) λx=>Wo R (A7 18 a) x (iI 0) a):=F6 []
def jw:Wo R a b c d =
 (ob (D7 .lss c b) λy=>F3 y (ob (F7 7 a c) λz=>ob (F7 20 (A7 19 d) (iI 0)) λw=>oc (R.r CO [(pt 0),((IL z),.val),((I7 w),.val)] [H7.box (((.list 21 []),.full)::(zz4 []))]) λq4 s4=>ob (Q7 s4 0) λc5=>ob (Y5 c5 1) λu=>ob (D7 .neq u (iI 0)) λv=>F3 v (ob (Q7 s4 0) λc8=>ob (Dj 1 15 c8) λe9=>og (E5 15 (.agg e9))<|some (.I4 [(.agg ((iI 0)::(EX []))),(.agg [(A7 0 (.agg e9)),(A7 1 (.agg e9)),(A7 2 (.agg e9)),(A7 3 (.agg e9)),(A7 4 (.agg e9)),(A7 5 (.agg e9)),(A7 6 (.agg e9)),(A7 7 (.agg e9)),(A7 8 (.agg e9)),(A7 9 (.agg e9)),(A7 10 (.agg e9)),(A7 11 (.agg e9)),(A7 12 (.agg e9)),(A7 13 (.agg e9)),(A7 14 (.agg e9))])])) (ob (R8 .not q4) λt=>
 F3 t (ob (D7 .add c (iI 1)) λs=>OB R a b s d s4) (ob (D7 .add c (iI 1)) λq=>ob (F7 20 (A7 19 d) q) λp=>ob (Q7 s4 0) λc14=>ob (Y5 c14 0) λx=>ob (L6 x) λo=>KZ R x o (iI 0) p s4))) (some (.I4 [(.agg ((iI 0)::(EX []))),(.agg ((iI 4)::(qI [(iI 0),(.bool false),(A7 1 d),(A7 2 d),(iI 0)])))]))):=J2 []
def Ta:OB R a b c d s =
 (ob (D7 .lss c b) λy=>F3 y (ob (F7 7 a c) λz=>ob (F7 20 (A7 19 d) (iI 0)) λw=>oc (R.r CO [(.undef,(.ptr s.length 0)),((IL z),.val),((I7 w),.val)] (s++[H7.box (((.list 21 []),.full)::(zz4 []))])) λq4 s4=>ob (Q7 s4 s.length) λc5=>ob (Y5 c5 1) λu=>ob (D7 .neq u (iI 0)) λv=>F3 v (ob (Q7 s4 s.length) λc8=>ob (Dj 1 15 c8) λe9=>og (E5 15 (.agg e9))<|some (.I4 [(.agg ((iI 0)::(EX []))),(.agg [(A7 0 (.agg e9)),(A7 1 (.agg e9)),(A7 2 (.agg e9)),(A7 3 (.agg e9)),(A7 4 (.agg e9)),(A7 5 (.agg e9)),(A7 6 (.agg e9)),(A7 7 (.agg e9)),(A7 8 (.agg e9)),(A7 9 (.agg e9)),(A7 10 (.agg e9)),(A7 11 (.agg e9)),(A7 12 (.agg e9)),(A7 13 (.agg e9)),(A7 14 (.agg e9))])])) (ob (R8 .not q4) λt=>
 F3 t (ob (D7 .add c (iI 1)) λq=>OB R a b q d s4) (ob (D7 .add c (iI 1)) λp=>ob (F7 20 (A7 19 d) p) λo=>ob (Q7 s4 s.length) λc14=>ob (Y5 c14 0) λx=>ob (L6 x) λn=>KZ R x n (iI 0) o s4))) (some (.I4 [(.agg ((iI 0)::(EX []))),(.agg ((iI 4)::(qI [(iI 0),(.bool false),(A7 1 d),(A7 2 d),(iI 0)])))]))):=J2 []
def TZ:KZ R a b c d s =
 (ob (D7 .lss c b) λu=>F3 u (ob (F7 21 a c) λx=>ob (R.p Rz [(I7 d),(A7 0 x),(.list 1 []),(.agg [(A7 1 x),(A7 2 x),(A7 3 x),(A7 4 x),(A7 5 x),(A7 6 x),(A7 7 x),(A7 8 x),(A7 9 x),(A7 10 x),(A7 11 x),(A7 12 x),(A7 13 x),(A7 14 x),(A7 15 x),(A7 16 x),(A7 17 x),(A7 18 x),(A7 19 x),(A7 20 x)])]) λz=>ob (K5 0 z) λw=>ob (K5 1 z) λy=>og (E5 20 w)<|og (E5 15 y)<|ob (D7 .neq (A7 0 y) (iI 0)) λv=>F3 v (some (.I4 [(.agg ((iI 0)::(EX []))),(AO y)])) (ob (D7 .add c (iI 1)) λt=>KZ R a b t w s)) (some (.I4 [(I7 d),(.agg ((iI 0)::(Dk [])))]))):=J2 []
def uV:C9.p jB [a]=A1w C9 a:=Q0 func67
end
end Go.Su
