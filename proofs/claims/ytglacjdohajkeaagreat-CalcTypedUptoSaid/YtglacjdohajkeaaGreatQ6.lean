/-
  Parts of the proof, merged: Q, TY1, TY2, TY3, TY4.
-/
import Derived.Test.YtglacjdohajkeaaGreatQ3
import Derived.Test.YtglacjdohajkeaaGreatQ4
import Derived.Test.YtglacjdohajkeaaGreatQ5
set_option linter.unusedVariables false
set_option linter.unusedSimpArgs false
/-
 The functions' specs that this claim needs.
-/
open Bool renaming false_eq_true → z1q, not_eq_true' → zaq, not_true → zgq, not_false → zoq, and_true → zqq, and_eq_true → zrq, eq_iff_iff → zyq, true_and → zCq, eq_false_iff → zXq, and_assoc → y7q, if_true_left → ycq, false_or → ymq
open Int renaming cast_ofNat_Int → zbq, lt_irrefl → zcq, ofNat_lt → zhq, natCast_zero → zjq, ofNat_zero → zlq, ofNat_inj → zuq, natCast_nonneg → y4q, toNat_natCast → yaq
open List renaming getElem_mem → z0q, drop_eq_getElem_cons → z2q, length_map → z3q, getElem?_eq_getElem → z4q, take_succ_eq_append_getElem → z6q, drop_of_length_le → z7q, take_of_length_le → z8q, map_cons → z9q, getD_eq_getElem?_getD → zdq, map_nil → zfq, drop_zero → ziq, eq_nil_of_length_eq_zero → zkq, getElem?_cons_zero → zmq, nil_append → znq, getElem?_cons_succ → zpq, getD_cons_zero → zsq, getElem?_map → ztq, sum_cons → zvq, drop_length → zwq, append_assoc → zxq, mem_append → zzq, length_zip → zAq, set_cons_zero → zBq, mem_take_iff_getElem → zDq, all_cons → zEq, length_take → zGq, length_append → zHq, mem_cons_self → zIq, mem_singleton → zJq, countP_append → zKq, append_nil → zLq, set_set → zNq, singleton_append → zOq, take_length → zPq, all_nil → zQq, nodup_iff_pairwise_ne → zRq, mem_cons → zSq, pairwise_iff_getElem → zTq, foldl_cons → zUq, set_cons_succ → zVq, flatMap_cons → zWq, drop_eq_nil_of_le → zYq, getElem_set_self → y0q, mem_cons_of_mem → y1q, find?_cons → y2q, of_mem_zip → y3q, map_set → y5q, take_set_of_le → y6q, take_zero → y9q, getElem?_drop → ybq, map_take → yeq, nodup_append → yfq, zip_nil_left → ygq, all_eq_true → yhq, range_succ → yiq, drop_drop → ylq
open Nat renaming le_of_lt → z5q, le_refl → zeq, zero_add → zFq, zero_le → zMq, le_trans → zZq, lt_or_ge → ydq
open Option renaming getD_some → y8q, bind_none → yjq, bind_some → ykq
namespace Go.Su
set_option linter.defProp false
noncomputable section
def big{n:Nat}(h:n<=J9):n<4294967297:=by unfold J9 at h;omega
def Ty.C3P{t k:Ty}(ht:t.size<=J9)(h:k∈t.D6):k.size<=J9:=by have:=Ty.Ec h;omega
def Ty.B6R{t:Ty}(ht:t.size<=J9):t.D6.length<4294967296:=by have:=t.vU;have:=big ht;omega
variable (k:Int)
def rW:C9.p gL [iI k]=some (iI (X3 k)):=by refine(A2O _).trans ?_;rw[A5F];simp[X3];by_cases h1:k=1<;>by_cases h2:k=2<;>by_cases h3:k=3<;>by_cases h4:k=4<;>by_cases h5:k=5<;>by_cases h6:k=6<;>by_cases h7:k=7<;>by_cases h8:k=8<;>by_cases h9:k=9<;>simp_all
def B5i:C9.p qV [iI k]=some (iI (X3 k)):=by refine(A0K _).trans ?_;rw[A2B];simp[X3];by_cases h1:k=1<;>by_cases h2:k=2<;>by_cases h3:k=3<;>by_cases h4:k=4<;>by_cases h5:k=5<;>by_cases h6:k=6<;>by_cases h7:k=7<;>by_cases h8:k=8<;>by_cases h9:k=9<;>simp_all
variable (t:Ty)
def nA:t.thin=true->C9.p GM [t.A9]=some (.bool t.right):=by
 induction t using Ty.ind with
 |h t ih=>
   intro ht;have hb:=t.Cx ht;refine(A0w _).trans ?_;have loop:KN C9 (iI 0) t.A9=_:=Kt (l:=t.D6) (f:=Ty.right) (P:=λi=>KN C9 (iI i) t.A9) (y:=.bool true) (n:=.bool false)
    (by rw[XQ];simp)
    (λi h=>by rw[XQ];simp[h,J3 h,Ty.M5,Ty.ag,ih _ (z0q h) (Ty.Fa ht (z0q h)),O8 (show i<9223372036854775807 by omega)];cases t.D6[i].right<;>rfl)
   rw[A2n];simp only[R9,F4,Ty.AV,Ty.Ju,Ty.En,rW,F8,N8,Z6,J6,Ah,J5,E9,loop,Ty.right_eq t,z3q]
   grind
def B5j:t.thin=true->C9.p Zw [t.A9]=some (.bool t.right):=by
 induction t using Ty.ind with
 |h t ih=>
   intro ht;have hb:=t.Cx ht;refine(A0L _).trans ?_;have loop:NM C9 (.list 3 (t.D6.map Ty.A9)) (iI t.D6.length) (iI 0)=_:=Kt (l:=t.D6) (f:=Ty.right) (P:=λi=>NM C9 (.list 3 (t.D6.map Ty.A9)) (iI t.D6.length) (iI i)) (y:=.bool true) (n:=.bool false)
    (by rw[Xd];simp)
    (λi h=>by rw[Xd];simp[h,J3 h,Ty.M5,Ty.ag,ih _ (z0q h) (Ty.Fa ht (z0q h)),O8 (show i<9223372036854775807 by omega)];cases t.D6[i].right<;>rfl)
   rw[A2C];simp only[R9,F4,Ty.AV,Ty.Ju,Ty.En,B5i,F8,N8,Z6,J6,Ah,Ki,BH,P6,J5,E9,loop,Ty.right_eq t,z3q];have h0:t.A8=6->X3 t.A8=0:=λh=>by rw[h];rfl
   have h7:t.A8=6->X3 t.A8=t.D6.length->t.D6.all Ty.right=true:=λh h'=>by have:t.D6=[]:=zkq (by have:=h0 h;omega);rw[this];rfl
   have h8:(t.D6.length:Int)=X3 t.A8↔X3 t.A8=t.D6.length:=eq_comm;simp only[h8,B9S,B4b];refine C6B ?_;by_cases h1:X3 t.A8=t.D6.length
   ·have h2:¬(X3 t.A8<0):=by omega
    by_cases h4:t.A8=6
    ·simp[h1,h2,h4,h7 h4 h1];omega
    ·by_cases h5:t.n=0<;>simp[h1,h2,h4,h5]
   ·by_cases h2:X3 t.A8<0<;>simp[h1,h2]
theorem DI(ht:t.thin=true):C9.p GN [t.A9]=some (iI (if t.right=true then 0 else 1)):=by refine(A0J _).trans ?_;rw[A2A];simp[Ty.M5,Ty.ag,B5j t ht];cases t.right<;>rfl
def Ua:t.size<=J9->C9.p FH [t.A9]=some (iI t.size):=by
 induction t using Ty.ind with
 |h t ih=>
   intro ht;have hb:=Ty.B6R ht;refine(A2S _).trans ?_;rw[A5J];simp only[R9,F4];have loop:=HZ (l:=t.D6) (P:=λi (a:Nat)=>Uk C9 (iI a) (iI i) t.A9) (g:=λa k=>a+k.size) (fin:=λa=>some (iI a))
    (I:=λi a=>a+((t.D6.drop i).map Ty.size).sum<=J9)
    (λa _=>by rw[Yw];simp)
    (λi h a ha=>by rw[z2q h,z9q,zvq]at ha;have:=big ha;refine⟨?_,by omega⟩;rw[Yw];simp[h,J3 h,Ty.M5,Ty.ag,ih _ (z0q h) (Ty.C3P ht (z0q h)),O8 (show i<9223372036854775807 by omega)];rw[GJ (by omega) (by omega)];simp) 1 (by have:=Ty.size_eq t;simpa using(by omega:1+(t.D6.map Ty.size).sum<=J9))
   have e:∀(l:List Ty)(a:Nat),l.foldl (λa k=>a+k.size) a=a+(l.map Ty.size).sum:=by
    intro l;induction l with
    |nil=>intro a;simp
    |cons x l ih=>intro a;simp[ih];omega
   rw[e,<- Ty.size_eq]at loop;exact loop
variable (a:Ty)
def EN:a.thin=true->∀b:Ty,C9.p EP [a.A9,b.A9]=some (.bool (decide (a=b))):=by
 induction a using Ty.ind with
 |h a ih=>
   intro ha b;have hb:=a.Cx ha;refine(A3b _ _).trans ?_;rw[A51];simp;by_cases h1:a.A8=b.A8<;>simp[h1,Ty.ED];by_cases h2:a.n=b.n<;>simp[h2];by_cases h3:a.D6.length=b.D6.length
   ·have loop:=RU (l:=a.D6) (m:=b.D6) h3 (P:=λi=>VB C9 (.list 3 (a.D6.map Ty.A9)) (iI a.D6.length) (iI i) b.A9) (y:=.bool true) (n:=.bool false)
     (by rw[ZJ];simp[h3])
     (λi h=>by
       have h':i<b.D6.length:=by omega
       rw[ZJ];simp[h,h',J3 h,J3 h',Ty.M5,Ty.ag,ih _ (z0q h) (Ty.Fa ha (z0q h)),O8 (show i<9223372036854775807 by omega)])
    simp only[h3]at loop ⊢;simp[loop];by_cases h4:a.D6=b.D6<;>simp[h4]
   ·have:a.D6≠b.D6:=λh=>h3 (by rw[h]);simp[zuq,h3,this]
def Ig:a.thin=true->∀b:Ty,C9.p FF [a.A9,b.A9]=some (.bool (decide (a=b))):=by
 induction a using Ty.ind with
 |h a ih=>
   intro ha b;have hb:=a.Cx ha;refine(A2R _ _).trans ?_;rw[A5I];simp;by_cases h1:a.A8=b.A8<;>simp[h1,Ty.ED];by_cases h2:a.n=b.n<;>simp[h2];by_cases h3:a.D6.length=b.D6.length
   ·have loop:=RU (l:=a.D6) (m:=b.D6) h3 (P:=λi=>Uj C9 (iI i) a.A9 b.A9) (y:=.bool true) (n:=.bool false)
     (by rw[Yv];simp[h3])
     (λi h=>by
       have h':i<b.D6.length:=by omega
       rw[Yv];simp[h,h',J3 h,J3 h',Ty.M5,Ty.ag,ih _ (z0q h) (Ty.Fa ha (z0q h)),O8 (show i<9223372036854775807 by omega)])
    simp only[h3]at loop ⊢;simp[loop];by_cases h4:a.D6=b.D6<;>simp[h4]
   ·have:a.D6≠b.D6:=λh=>h3 (by rw[h]);simp[zuq,h3,this]
def B4X:a.thin=true->∀b:Ty,C9.p Zo [a.A9,b.A9]=some (.bool (decide (a=b))):=by
 induction a using Ty.ind with
 |h a ih=>
   intro ha b;have hb:=a.Cx ha;refine(B2h _ _).trans ?_;rw[B3B];simp;by_cases h1:a.A8=b.A8<;>simp[h1,Ty.ED];by_cases h2:a.n=b.n<;>simp[h2];by_cases h3:a.D6.length=b.D6.length
   ·have loop:=RU (l:=a.D6) (m:=b.D6) h3 (P:=λi=>SG C9 (iI i) a.A9 b.A9) (y:=.bool true) (n:=.bool false)
     (by rw[n_];simp[h3])
     (λi h=>by
       have h':i<b.D6.length:=by omega
       rw[n_];simp[h,h',J3 h,J3 h',Ty.M5,Ty.ag,ih _ (z0q h) (Ty.Fa ha (z0q h)),O8 (show i<9223372036854775807 by omega)])
    simp only[h3]at loop ⊢;simp[loop];by_cases h4:a.D6=b.D6<;>simp[h4]
   ·have:a.D6≠b.D6:=λh=>h3 (by rw[h]);simp[zuq,h3,this]
def B0w(a b:List Ty)(hl:a.length<=J9)(ha:∀t∈a,t.thin=true):C9.p dB [.list 3 (a.map Ty.A9),.list 3 (b.map Ty.A9)]=some (.bool (decide (a=b))):=by
 have hb:=big hl;refine(oU _ _).trans ?_;rw[tu];simp;by_cases h3:a.length=b.length
 ·have loop:=RU (l:=a) (m:=b) h3 (P:=λi=>OE C9 (.list 3 (a.map Ty.A9)) (.list 3 (b.map Ty.A9)) (iI i)) (y:=.bool true) (n:=.bool false)
   (by rw[Td];simp[h3])
   (λi h=>by
     have h':i<b.length:=by omega
     rw[Td];simp[h,h',J3 h,J3 h',Ty.M5,Ty.ag,Ig _ (ha _ (z0q h)),O8 (show i<9223372036854775807 by omega)])
  simp only[h3]at loop ⊢;simp[loop];by_cases h4:a=b<;>simp[h4]
 ·have:a≠b:=λh=>h3 (by rw[h]);simp[zuq,h3,this]
def B0C(q:Int)(t:Ty):t.thin=true->C9.p Ug [t.A9,iI q]=some (.bool (t.BC q)):=by
 induction t using Ty.ind with
 |h t ih=>
   intro ht;have hb:=t.Cx ht;refine(A8Q _ _).trans ?_;have loop:Kg C9 (iI q) (.list 3 (t.D6.map Ty.A9)) (iI t.D6.length) (iI 0)=_:=bV (l:=t.D6) (f:=Ty.BC q) (P:=λi=>Kg C9 (iI q) (.list 3 (t.D6.map Ty.A9)) (iI t.D6.length) (iI i))
    (by rw[fe];simp)
    (λi h=>by rw[fe];simp[h,J3 h,Ty.M5,Ty.ag,ih _ (z0q h) (Ty.Fa ht (z0q h)),O8 (show i<9223372036854775807 by omega)];cases(t.D6[i].BC q)<;>rfl)
   rw[A96];simp only[loop,R9,F4,Ty.AV,Ty.En,F8,N8,P6,E9,z3q,Ty.Ot q t]
   by_cases h1:t.A8=q<;>simp[h1]
def A1g(ht:t.thin=true):C9.p Wm [t.A9]=some (.bool (t.BC 6)):=by refine(B0a _).trans ?_;rw[B2d];simp[Ty.M5,Ty.ag,B0C 6 t ht]
def B1Q(l:List Int)(hl:l.length<=J9)(n:Int):C9.p wP [K6 l,iI n]=some (.bool (decide (n∈l))):=by
 have hb:=big hl;refine(A8N _ _).trans ?_;rw[B08];have loop:=pR (l:=l) (f:=λx=>decide (x=n)) (P:=λi=>Zy C9 (K6 l) (iI n) (iI i))
  (by rw[j_];simp)
  (λi h=>by rw[j_];simp[h,Bg h,O8 (show i<9223372036854775807 by omega)])
 refine loop.trans ?_;congr 2;rw[zyq];simp
def B6d:∀(l:List Int)(sg:List H7),l.length+t.size<=J9->C9.r gM [(t.A9,.val),(K6 l,.own)] sg=some ([K6 (t.Cj l)],sg):=by
 induction t using Ty.ind with
 |h t ih=>
   intro l sg hl;have hb:=Ty.B6R (show t.size<=J9 by omega);have hB:=big hl;refine(A2U _ _ _).trans ?_;have loop:∀l:List Int,l.length+(t.D6.map Ty.size).sum<=J9->Ox C9 (K6 l) (iI 0) t.A9 sg=some ([K6 (t.D6.foldl (λl k=>k.Cj l) l)],sg) :=
    HZ (l:=t.D6) (P:=λi (a:List Int)=>Ox C9 (K6 a) (iI i) t.A9 sg) (g:=λa k=>k.Cj a) (fin:=λa=>some ([K6 a],sg))
     (I:=λi a=>a.length+((t.D6.drop i).map Ty.size).sum<=J9)
     (λa _=>by rw[Yx];simp)
     (λi h a ha=>by rw[z2q h,z9q,zvq]at ha;have h1:=Ty.B8U t.D6[i] a;refine⟨?_,by omega⟩;rw[Yx];simp[h,J3 h,Ty.M5,Ty.ag,ih _ (z0q h) a sg (by omega),O8 (show i<9223372036854775807 by omega)])
   have Ak:=Ty.size_eq t;rw[A5L,Ty.cK];simp;by_cases h6:t.A8=6
   ·simp[h6,B1Q l (by omega) t.n];by_cases hn:t.n∈l
    ·simp[hn,VD,loop l (by omega)]
    ·simp[hn,VD];rw[show K6 l=.list 1 (l.map λn=>.int .i64 n)from rfl,Qu (by simp;omega)];simp;have:=loop (l++[t.n]) (by simp;omega);simpa[K6]using this
   ·simp[h6,VD,loop l (by omega)]
def B6c(ht:t.size<=J9):C9.p wR [t.A9]=some (K6 t.vars):=by refine(A2T _).trans ?_;rw[A5K];have:=B6d t [] [] (by simpa using ht);have e:K6 []=.list 1 []:=rfl;rw[e]at this;simp[Ty.M5,Ty.ag,this,Ty.vars]
def B4Y:∀n:Int,t.thin=true->0<=n->n<=1048576->∃m:Int,C9.p Zp [t.A9,iI n]=some (iI m)/\0<=m/\m<=max (n+1) 601:=by
 induction t using Ty.ind with
 |h t ih=>
   intro n ht h0 h1;have hb:=t.Cx ht;have loop:∀m:Int,0<=m->m<=1048577->∃r:Int,NF C9 (iI m) (iI 0) t.A9=some (iI r)/\0<=r/\r<=max m 601:=by
    have key:∀(k i:Nat)(m:Int),i+k=t.D6.length->0<=m->m<=1048577->∃r:Int,NF C9 (iI m) (iI i) t.A9=some (iI r)/\0<=r/\r<=max m 601:=by
     intro k;induction k with
     |zero=>
       intro i m hi h0 h1;rw[XN];have:¬i<t.D6.length:=by omega
       exact⟨m,by simp[this],h0,by omega⟩
     |succ k ihk=>
       intro i m hi h0 h1;have h:i<t.D6.length:=by omega
       rw[XN];by_cases hm:m<=600
       ·obtain⟨r,hr,hr0,hr1⟩:=ih _ (z0q h) m (Ty.Fa ht (z0q h)) h0 (by omega);obtain⟨s,hs,hs0,HY⟩:=ihk (i+1) r (by omega) hr0 (by omega);push_cast at hs;exact⟨s,by simp[h,hm,J3 h,Ty.M5,Ty.ag,hr,O8 (show i<9223372036854775807 by omega),hs],hs0,by omega⟩
       ·exact⟨m,by simp[h,hm],h0,by omega⟩
    exact λm h0 h1=>key t.D6.length 0 m (by omega) h0 h1
   obtain⟨r,hr,hr0,hr1⟩:=loop (n+1) (by omega) (by omega);refine⟨r,(A0r _ _).trans ?_,hr0,hr1⟩;rw[A2i];simp;rw[GJ (by omega) (by omega)];simpa using hr
def B2A(ht:t.thin=true):∃b:Bool,C9.p qK [.list 3 [t.A9]]=some (.bool b):=by
 obtain⟨m,h1,h2,h3⟩:=B4Y t 0 ht (by omega) (by omega);refine⟨decide (600<m),(A0q _).trans ?_⟩;rw[A2h,XM];have e0:F7 3 (.list 3 [t.A9]) (iI 0)=some t.A9:=by simp[F7]
 simp[e0,Ty.M5,Ty.ag,h1,GJ (show(-9223372036854775808:Int)<=0+1 by omega) (by omega)];rw[XM];simp
def B6g:∀n:Int,-9223372036854775000<=n->n<=1000->t.thin=true->C9.p gP [t.A9,iI n]=some (.bool (t.deep n)):=by
 induction t using Ty.ind with
 |h t ih=>
   intro n hn0 hn ht;have hb:=t.Cx ht;refine(A2X _ _).trans ?_;rw[A5O,Ty.C3v];simp;by_cases h0:n<=0
   ·simp[h0]
   ·have loop:=pR (l:=t.D6) (f:=λk=>k.deep (n-1)) (P:=λi=>Un C9 (iI n) (iI i) t.A9)
     (by rw[ZA];simp)
     (λi h=>by rw[ZA];simp[h,J3 h,Ty.M5,Ty.ag,FX,X7 (show(-9223372036854775808:Int)<=n-1 by omega) (by omega),ih _ (z0q h) (n-1) (by omega) (by omega) (Ty.Fa ht (z0q h)),O8 (show i<9223372036854775807 by omega)])
    simp only[h0,R4,ymq];exact loop
variable (s:ByteArray)
def B6s:C9.p wX [.str s]=some (.bool (A66 s)):=by
 refine(A3c _).trans ?_;rw[A52];have e:∀l:List UInt8,(s=⟨l.toArray⟩)↔s.data.toList=l:=λl=>by
  constructor
  ·rintro rfl;simp
  ·intro h;cases s;simp only[ByteArray.mk.injEq];exact Array.ext' (by simpa using h)
 simp only[Lx,F8,E9];simp only[e,A66,B0f,zSq,List.not_mem_nil,or_false];simp only[F5,C7w,B4b,ycq,Bool.decide_or,Bool.or_false]
variable (c:Int)
def B2O:C9.p jI [.int .u8 c]=some (.bool (Sy c)):=by
 refine(vG _).trans ?_;rw[A0m];simp only[Ki,BH,P6,F8,J5,F5,Sy,Hw,A19]
 by_cases h1:97<=c<;>by_cases h2:c<=122<;>by_cases h3:65<=c<;>by_cases h4:c<=90<;>by_cases h5:48<=c<;>by_cases h6:c<=57<;>by_cases h7:c=95<;>simp[h1,h2,h3,h4,h5,h6,h7]
def m_:C9.p Tx [.int .u8 c]=some (.bool (Hw c)):=by
 refine(A0v _).trans ?_;rw[A2m];simp only[Ki,BH,F8,J5,F5,Hw]
 by_cases h1:97<=c<;>simp[h1]
def B41:C9.p qP [.int .u8 c]=some (.bool (A19 c)):=by
 refine(A0u _).trans ?_;rw[A2l];simp only[Ki,BH,F8,J5,F5,A19]
 by_cases h1:48<=c<;>simp[h1]
def B6a:C9.p wO [.int .u8 c]=some (.bool (Sy c)):=by
 refine(A2N _).trans ?_;rw[A5E];simp only[Ki,BH,P6,F8,J5,F5,m_,B41,Sy]
 by_cases h1:Hw c=true<;>by_cases h2:A19 c=true<;>by_cases h3:65<=c<;>by_cases h4:c<=90<;>by_cases h7:c=95<;>simp[h1,h2,h3,h4,h7]
def B7f{s:ByteArray}(h:s.size<=J9):(CG s).length<4294967297:=by rw[Ph];exact big h
def A32(hs:s.size<=J9):C9.p Zx [.str s]=some (.bool (Dt s)):=by
 have hb:=B7f hs;refine(A0M _).trans ?_;rw[A2D];simp only[Gw,F8,J6,Ah,J5,E9,F5,Dt,<- Ph]
 by_cases h1:((CG s).length:Int)<1
 ·have:¬(1<=(CG s).length):=by omega
  simp[h1,this]
 ·by_cases h2:(32:Int)<((CG s).length:Int)
  ·have:¬((CG s).length<=32):=by omega
   simp[h1,h2,this]
  ·have h0:0<(CG s).length:=by omega
   have e0:=jq (s:=s) (k:=.i64) h0;simp only[zjq,zlq,zbq]at e0;have loop:∀(k i:Nat),i+k=(CG s).length->Sb C9 (.str s) (iI i)=some (.bool (((CG s).drop i).all Sy)):=by
    intro k;induction k with
    |zero=>
      intro i hi;rw[Xe];have:¬i<(CG s).length:=by omega
      simp[<- Ph,this,z7q (show(CG s).length<=i by omega)]
    |succ k ih=>
      intro i hi;have h:i<(CG s).length:=by omega
      rw[Xe];have:=ih (i+1) (by omega);push_cast at this;have P8:(i:Int)<(s.size:Int):=by rw[<- Ph];omega
      rw[z2q h,zEq];simp only[Gw,F8,J6,P8,L8,E9,H5,jq h,B2O,P9,O8 (show i<9223372036854775807 by omega)]
      push_cast;rw[this];cases Sy (CG s)[i]<;>rfl
   have l1:=loop ((CG s).length-1) 1 (by omega);simp only[Int.natCast_one,Int.ofNat_one,zbq]at l1;have g0:(CG s).getD 0 0=(CG s)[0]:=by simp[zdq,h0]
   have d0:CG s=(CG s)[0]::(CG s).drop 1:=by have:=z2q h0;simpa using this
   have a1:(1<=(CG s).length):=by omega
   have a2:((CG s).length<=32):=by omega
   have e0':Af (.str s) (iI 0)=some (.int .u8 (CG s)[0]):=e0;simp only[h1,h2,F9,e0',F8,J6,Ah,J5,F5,B6s,E9,g0,a1,a2,L8,zCq]
   by_cases h3:(CG s)[0]<97
   ·have:Hw (CG s)[0]=false:=by simp[Hw];omega
    simp[h3,this]
   ·by_cases h4:(122:Int)<(CG s)[0]
    ·have:Hw (CG s)[0]=false:=by simp[Hw];omega
     simp[h3,h4,this]
    ·have h5:Hw (CG s)[0]=true:=by simp[Hw];omega
     have h6:Sy (CG s)[0]=true:=by simp[Sy,h5]
     have h7:(CG s).all Sy=((CG s).drop 1).all Sy:=by
      conv=>lhs;rw[d0]
      simp[h6]
     cases hk:A66 s
     ·simp only[h3,h4,F9,z1q,h5,h7,zCq,zoq,zqq]
      exact l1
     ·simp[h3,h4]
open Classical in
def B8I(hs:s.size<=4294967000):C9.p A1p [.str s]=some (.bool (A66 s)):=by
 have hb:(CG s).length<=4294967000:=by rw[Ph];exact hs
 refine(A55 _).trans ?_;rw[A8z]
 let t:ByteArray:=⟨#[32]⟩++s++⟨#[32]⟩
 have tl:t.data.toList=32::s.data.toList++[32]:=by simp[t]
 have ts:t.size=s.size+2:=by have:=congrArg List.length tl;simp only[Array.length_toList,zHq,List.length_cons,List.length_nil]at this;have e1:t.size=t.data.size:=rfl;have e2:s.size=s.data.size:=rfl;omega
 have search:∀(k i:Nat),i+k=82->Qm C9 (.str s) (.str t) (iI i)=some (.bool (decide (0<s.size/\∃j,i<=j/\j+t.size<=81/\(EJ.drop j).take t.size=t.data.toList))):=by
  intro k;induction k with
  |zero=>
    intro i hi;rw[dW];simp only[Gw,F8];rw[GJ (by omega) (by omega)];have:¬((i:Int)+(t.size:Int)<=81):=by omega
    have h2:¬(0<s.size/\∃j,i<=j/\j+t.size<=81/\(EJ.drop j).take t.size=t.data.toList):=by rintro⟨-,j,h1,h2,-⟩;omega
    simp[this,h2]
  |succ k ih=>
    intro i hi;rw[dW];simp only[Gw,F8];rw[GJ (by omega) (by omega)];by_cases h1:(i:Int)+(t.size:Int)<=81
    ·have h1':i+t.size<=81:=by omega
     have nx:=ih (i+1) (by omega);simp only[BH,h1,L8,F8,E9,H5,Ah,J5,F5];rw[show((i+1:Nat):Int)=(i:Int)+1 by omega]at nx;by_cases h0:(0:Int)<(s.size:Int)
     ·have bM:0<s.size:=by omega
      have ext:∀w:ByteArray,w.data.toList=EJ->tL (.str w) (some (iI (i:Int))) (some (iI ((i:Int)+(t.size:Int))))=some (.str (w.extract i (i+t.size))):=by
       intro w hw;have hwl:w.size=81:=by have:=congrArg List.length hw;rw[C0V]at this;simpa using this
       have e1:((i:Int)+(t.size:Int)).toNat=i+t.size:=by omega
       simp only[tL,bnd,F8,e1,show(0:Int)<=(i:Int)+(t.size:Int)by omega,H5,y4q,yaq,hwl]
       rw[D5 (by omega)]
      simp only[h0,H5];rw[ext _ rfl];simp only[F8,Lx,E9,F5];rw[O8 (by omega)];simp only[F8];rw[show((i+1:Nat):Int)=(i:Int)+1 by omega,nx];have exl:∀w:ByteArray,w.data.toList=EJ->((w.extract i (i+t.size)=t)↔(EJ.drop i).take t.size=t.data.toList):=by
       intro w hw;have e:(w.extract i (i+t.size)).data.toList=(EJ.drop i).take t.size:=by rw[ByteArray.data_extract,Array.toList_extract,hw,List.extract_eq_take_drop];congr 1;omega
       rw[<- e];constructor
       ·intro h;rw[h]
       ·intro h;cases hx:w.extract i (i+t.size);rw[hx]at h;cases ht:t;rw[ht]at h;simp only[ByteArray.mk.injEq];exact Array.ext' h
      by_cases h2:(EJ.drop i).take t.size=t.data.toList
      ·rw[D5 ((exl _ rfl).2 h2)];have:(0<s.size/\∃j,i<=j/\j+t.size<=81/\(EJ.drop j).take t.size=t.data.toList):=⟨bM,i,zeq _,h1',h2⟩;simp[this]
      ·rw[C8 (λh=>h2 ((exl _ rfl).1 h))];congr 2;rw[zyq];simp only[F5];constructor
       ·rintro⟨a,j,b,c⟩;exact⟨a,j,by omega,c⟩
       ·rintro⟨a,j,b,c,d⟩;refine⟨a,j,?_,c,d⟩;rcases ydq i j with h | h
        ·exact h
        ·exact absurd (by rw[show i=j by omega];exact d) h2
     ·have:¬(0<s.size/\∃j,i<=j/\j+t.size<=81/\(EJ.drop j).take t.size=t.data.toList):=λh=>h0 (by have:=h.1;omega);have C7N:¬(0<s.size/\∃j,i+1<=j/\j+t.size<=81/\(EJ.drop j).take t.size=t.data.toList):=λh=>h0 (by have:=h.1;omega);simp only[h0,F9];rw[O8 (by omega)];simp only[F8];rw[show((i+1:Nat):Int)=(i:Int)+1 by omega,nx];simp[this,C7N]
    ·have h2:¬(0<s.size/\∃j,i<=j/\j+t.size<=81/\(EJ.drop j).take t.size=t.data.toList):=by rintro⟨-,j,h3,h4,-⟩;omega
     simp[h1,h2]
 have fin:(s.data.toList.all A69=true/\0<s.size/\∃j,0<=j/\j+t.size<=81/\(EJ.drop j).take t.size=t.data.toList)↔s.data.toList∈B0f:=by
  rw[<- C0U];have e2:s.data.toList.length=s.size:=by simp
  rw[e2,ts,tl];simp
 have low:∀b:UInt8,Hw (b.toNat:Int)=A69 b:=by intro b;simp only[Hw,A69,UInt8.le_iff_toNat_le];rw[zyq];simp only[zrq,F5];have h1:(97:UInt8).toNat=97:=rfl;have h2:(122:UInt8).toNat=122:=rfl;rw[h1,h2];omega
 have loop:∀(k i:Nat),i+k=(CG s).length->Ws C9 (.str s) (iI i)=some (.bool (decide (((CG s).drop i).all Hw=true/\0<s.size/\∃j,0<=j/\j+t.size<=81/\(EJ.drop j).take t.size=t.data.toList))):=by
  intro k;induction k with
  |zero=>
    intro i hi;rw[dV];have P8:¬(i:Int)<(s.size:Int):=by rw[<- Ph];omega
    have e1:D7 .add (.str ⟨#[32]⟩) (.str s)=some (.str (⟨#[32]⟩++s)):=by simp only[D7,tN];rw[D5];have:(⟨#[32]⟩:ByteArray).size=1:=rfl;unfold J9;omega
    have e2:D7 .add (.str (⟨#[32]⟩++s)) (.str ⟨#[32]⟩)=some (.str t):=by
     simp only[D7,tN];rw[D5];have h1:(⟨#[32]⟩:ByteArray).size=1:=rfl;have h2:(⟨#[32]⟩++s:ByteArray).size=s.size+1:=by have:=ByteArray.size_append (a:=⟨#[32]⟩) (b:=s);omega
     unfold J9;omega
    have:=search 82 0 rfl;simp only[zjq,zlq,zbq]at this;simp only[Gw,F8,J6,P8,R4,E9,z1q,F9,e1,e2,z7q (show(CG s).length<=i by omega),zQq,true_and]
    exact this
  |succ k ih=>
    intro i hi;have h:i<(CG s).length:=by omega
    rw[dV];have:=ih (i+1) (by omega);push_cast at this;have P8:(i:Int)<(s.size:Int):=by rw[<- Ph];omega
    rw[z2q h,zEq];simp only[Gw,F8,J6,P8,L8,E9,H5,jq h,m_,P9,O8 (show i<9223372036854775807 by omega)]
    push_cast;rw[this];cases Hw (CG s)[i]<;>simp
 have l0:=loop (CG s).length 0 (by omega);simp only[zjq,zlq,zbq]at l0;have e3:(CG s).all Hw=s.data.toList.all A69:=by
  simp only[CG,List.all_map]
  congr 1;funext b;exact low b
 refine l0.trans ?_;rw[ziq,e3];simp only[fin,A66]
def aU(hs:s.size<=4294967000):C9.p Jg [.str s]=some (.bool (Dt s)):=by
 have hb:=B7f (s:=s) (by unfold J9;omega);refine(A2M _).trans ?_;rw[A5D];have h32:D7 .gtr (iI (s.size:Int)) (iI 32)=some (.bool (decide (32<s.size))):=by rw[Ah];congr 2;rw[decide_eq_decide];omega
 simp only[Gw,F8,J6,h32,J5,E9,F5,Dt]
 by_cases h1:(s.size:Int)<1
 ·have:¬(1<=s.size):=by omega
  simp[h1,this]
 ·by_cases h2:32<s.size
  ·have:¬(s.size<=32):=by omega
   simp[h1,h2,this]
  ·have h0:0<(CG s).length:=by rw[Ph];omega
   have loop:∀(k i:Nat),i+k=(CG s).length->Ui C9 (.str s) (iI i)=some (.bool (((CG s).drop i).all Sy&&!A66 s)):=by
    intro k;induction k with
    |zero=>
      intro i hi;rw[Yu];have P8:¬(i:Int)<(s.size:Int):=by rw[<- Ph];omega
      simp[P8,z7q (show(CG s).length<=i by omega),B8I s hs]
    |succ k ih=>
      intro i hi;have h:i<(CG s).length:=by omega
      rw[Yu];have:=ih (i+1) (by omega);push_cast at this;have P8:(i:Int)<(s.size:Int):=by rw[<- Ph];omega
      rw[z2q h,zEq];simp only[Gw,F8,J6,P8,L8,E9,H5,jq h,B6a,P9,O8 (show i<9223372036854775807 by omega)]
      push_cast;rw[this];cases Sy (CG s)[i]<;>rfl
   have l0:=loop (CG s).length 0 (by omega);simp only[zjq,zlq,zbq,ziq]at l0;have g0:(CG s).getD 0 0=(CG s)[0]:=by simp[zdq,h0]
   have e0':Af (.str s) (iI 0)=some (.int .u8 (CG s)[0]):=jq (s:=s) (k:=.i64) h0;have a1:(1<=s.size):=by omega
   have a2:(s.size<=32):=by omega
   simp only[h1,h2,F9,e0',F8,m_,P9,E9,g0,a1,a2,L8,zCq,l0];cases Hw (CG s)[0]<;>simp
theorem Co:(.str ⟨#[]⟩:DV)=.str S9:=rfl
variable (p:E8)
def B0B(hp:p.texts):C9.p dE [p.A9]=some (.bool p.one):=by
 obtain⟨hn,hs⟩:=hp;have h24:∀(t4:Int)(a b c g:DV)(nm:ByteArray)(n:Int)(s:ByteArray),Ay C9 (iI t4) p.A9 a b c (.str nm) (iI n) (.str s) g =
  some (.bool (decide ((p.D6.length:Int)=t4)&&decide (nm=p.name)&&decide (n=p.n)&&decide (s=p.s))):=by
  intro t4 a b c g nm n s;rw[fZ];simp only[E8.MO,E8.EU,E8.Qc,E8.Du,N8,z3q,F8,P6,Lx,J5,F5]
  by_cases h1:(p.D6.length:Int)=t4<;>by_cases h2:nm=p.name<;>by_cases h3:n=p.n<;>simp[h1,h2,h3]
 refine(om _).trans ?_;rw[uP];have FD:D7 .gtr (iI (p.s.size:Int)) (iI 200)=some (.bool (decide (200<p.s.size))):=by rw[Ah];congr 2;rw[decide_eq_decide];omega
 simp only[Sr,F4,E8.pj,Gg,iA,rR,P6,Z6,F8,E9,J5,A32 p.name (by unfold J9;omega),P9,Gw,FD,h24,Co]
 unfold E8.one;by_cases k1:p.A8=1
 ·simp[k1,eq_comm]
 by_cases k6:p.A8=6
 ·simp[k6,eq_comm]
 by_cases k8:p.A8=8
 ·simp[k8,eq_comm]
 by_cases k2:p.A8=2
 ·cases hnm:Dt p.name<;>simp[k2,hnm,eq_comm]
 by_cases k3:p.A8=3
 ·simp[k3,eq_comm]
 by_cases k4:p.A8=4
 ·by_cases n0:p.n=0
  ·simp[k4,n0,eq_comm]
  ·by_cases n1:p.n=1<;>simp[k4,n0,n1,eq_comm]
 by_cases k5:p.A8=5
 ·by_cases h:200<p.s.size
  ·have:¬p.s.size<=200:=by omega
   simp[k5,h,this]
  ·have:p.s.size<=200:=by omega
   simp[k5,h,this,eq_comm]
 have h2:decide (2=(p.D6.length:Int))=decide (2=p.D6.length):=by rw[decide_eq_decide];omega
 by_cases k7:p.A8=7
 ·simp[k7,eq_comm,h2]
 by_cases k9:p.A8=9
 ·simp[k9,eq_comm,h2]
 simp[k1,k2,k3,k4,k5,k6,k7,k8,k9]
def B8J:p.thin=true->p.txt->C9.p nO [p.A9]=some (.bool p.pat):=by
 induction p using E8.ind with
 |h p ih=>
   intro ht hx;have hb:=p.Cx ht;obtain⟨hn,hs⟩:=hx p p.C2e;have loop:Oy C9 (iI p.D6.length) (iI 0) p.A9=some (.bool (p.D6.all E8.pat)) :=
    bV (l:=p.D6) (f:=E8.pat) (P:=λi=>Oy C9 (iI p.D6.length) (iI i) p.A9)
     (by rw[Y_];simp)
     (λi h=>by rw[Y_];simp[h,J3 h,E8.M5,E8.ag,ih _ (z0q h) (E8.Fa ht (z0q h)) (E8.C4B hx (z0q h)),O8 (show i<9223372036854775807 by omega)];cases p.D6[i].pat<;>rfl)
   have h25:∀(t4:Int)(a:DV)(nm:ByteArray)(n:Int)(s:ByteArray),Dx C9 (iI t4) p.A9 a (.str nm) (iI n) (.str s) =
    some (.bool ((decide ((p.D6.length:Int)=t4)&&decide (p.name=nm)&&decide (p.n=n)&&decide (p.s=s))&&p.D6.all E8.pat)):=by
    intro t4 a nm n s;rw[zm];simp only[E8.MO,E8.EU,E8.Qc,E8.Du,N8,z3q,F8,Z6,A16,J5,E9,F5]
    by_cases h1:(p.D6.length:Int)=t4<;>by_cases h2:p.name=nm<;>by_cases h3:p.n=n<;>by_cases h4:p.s=s<;>simp[h1,h2,h3,h4];rw[<- h1];rw[loop]
   refine(A57 _).trans ?_;rw[A8B];have FD:D7 .gtr (iI (p.s.size:Int)) (iI 200)=some (.bool (decide (200<p.s.size))):=by rw[Ah];congr 2;rw[decide_eq_decide];omega
   simp only[Sr,F4,E8.pj,Gg,iA,rR,P6,Z6,J6,Ah,F8,E9,J5,aU p.name hn,P9,Gw,h25,Co];rw[E8.Ra];unfold E8.one;by_cases k1:p.A8=1
   ·simp[k1]
   by_cases k6:p.A8=6
   ·simp[k6]
   by_cases k8:p.A8=8
   ·simp[k8]
   by_cases k2:p.A8=2
   ·cases hnm:Dt p.name<;>simp[k2,hnm]
   by_cases k3:p.A8=3
   ·simp[k3]
   by_cases k4:p.A8=4
   ·by_cases n0:p.n<0
    ·have h1:¬(p.n=0\/p.n=1):=by omega
     simp[k4,n0,h1]
    ·by_cases n1:1<p.n
     ·have h1:¬(p.n=0\/p.n=1):=by omega
      simp[k4,n0,n1,h1]
     ·have h1:(p.n=0\/p.n=1):=by omega
      simp[k4,n0,n1,h1]
   by_cases k5:p.A8=5
   ·by_cases h:(200:Int)<(p.s.size:Int)
    ·have:¬p.s.size<=200:=by omega
     simp[k5,h,this]
    ·have:p.s.size<=200:=by omega
     simp[k5,h,this]
   by_cases k7:p.A8=7
   ·simp[k7];have:((p.D6.length:Int)=2)↔(p.D6.length=2):=by omega
    simp[this]
   by_cases k9:p.A8=9
   ·simp[k9];have:((p.D6.length:Int)=2)↔(p.D6.length=2):=by omega
    simp[this]
   simp[k1,k2,k3,k4,k5,k6,k7,k8,k9]
def B42(t:E8):∀(l:List ByteArray)(sg:List H7),l.length+t.size<=J9->C9.r Zq [(t.A9,.val),(N7 l,.own)] sg=some ([N7 (t.Dp l)],sg):=by
 induction t using E8.ind with
 |h t ih=>
   intro l sg hl;have hb:=E8.Cx _ (E8.FE (show t.size<=J9 by omega));have hB:=big hl;refine(A0y _ _ _).trans ?_;have loop:∀l:List ByteArray,l.length+(t.D6.map E8.size).sum<=J9->KO C9 (N7 l) (iI 0) t.A9 sg=some ([N7 (t.D6.foldl (λl k=>k.Dp l) l)],sg) :=
    HZ (l:=t.D6) (P:=λi (a:List ByteArray)=>KO C9 (N7 a) (iI i) t.A9 sg) (g:=λa k=>k.Dp a) (fin:=λa=>some ([N7 a],sg))
     (I:=λi a=>a.length+((t.D6.drop i).map E8.size).sum<=J9)
     (λa _=>by rw[XT];simp)
     (λi h a ha=>by rw[z2q h,z9q,zvq]at ha;have h1:=E8.Pn t.D6[i] a;refine⟨?_,by omega⟩;rw[XT];simp[h,J3 h,E8.M5,E8.ag,ih _ (z0q h) a sg (by omega),O8 (show i<9223372036854775807 by omega)])
   have Ak:=E8.size_eq t;rw[A2p,E8.Od];simp;by_cases h6:t.A8=2
   ·simp[h6];rw[show N7 l=.list 1 (l.map λn=>.str n)from rfl,Qu (by simp;omega)];have:=loop (l++[t.name]) (by simp;omega);simpa[N7]using this
   ·simp[h6,loop l (by omega)]
def nC(t:E8)(ht:t.size<=J9):C9.p Tz [t.A9]=some (N7 t.names):=by refine(A0x _).trans ?_;rw[A2o];have:=B42 t [] [] (by simpa using ht);have e:N7 []=.list 1 []:=rfl;rw[e]at this;simp[E8.M5,E8.ag,this,E8.names]
variable (l:List ByteArray)(n:ByteArray)
def Vi:Bool:=l.any λx=>decide (x=n)
def lV{l:List ByteArray}{n:ByteArray}:Vi l n=true↔n∈l:=by simp[Vi]
def iO(hl:l.length<=J9)(n:ByteArray):C9.p Vs [N7 l,.str n]=some (.bool (Vi l n)):=by
 have hb:=big hl;refine(A56 _ _).trans ?_;rw[A8A];have loop:=pR (l:=l) (f:=λx=>decide (x=n)) (P:=λi=>Wu C9 (N7 l) (.str n) (iI i))
  (by rw[dX];simp)
  (λi h=>by rw[dX];simp[h,L_ h,O8 (show i<9223372036854775807 by omega)])
 exact loop
variable {α : Type}
def xA{e : α->DV}{l:List α}{i:Nat}(h:i<=l.length)(sz:Nat):Cz sz (.list sz (l.map e)) none (some (iI (i:Int)))=some (.list sz ((l.take i).map e)):=by simp[Cz,bnd,h,yeq]
def A9e[DecidableEq α](l:List α):(∀(i:Nat)(h:i<l.length),l[i]∉l.take i)↔l.Nodup:=by
 constructor
 ·intro h;rw[zRq,zTq];intro i j hi hj PM he;exact h j hj (by rw[<- he];exact zDq.2 ⟨i,by omega,rfl⟩)
 ·intro h i hi hm;obtain⟨j,hj,he⟩:=zDq.1 hm;rw[zRq,zTq]at h;exact h j i (by omega) hi (by omega) he
open Classical in
def A9G(ht:p.size<=J9)(hx:p.txt):C9.p Yd [p.A9]=some (.bool p.right):=by
 refine(kU _).trans ?_;rw[oC];have hnl:p.names.length<=J9:=by have:=E8.Pn p [];simp at this;unfold E8.names;omega
 have hb:=big hnl;simp[E8.M5,E8.ag,B8J p (E8.FE ht) hx,nC p ht,E8.right];cases hp:p.pat
 ·simp
 ·simp;have loop:∀(k i:Nat),i+k=p.names.length->Mq C9 (N7 p.names) (iI i)=some (.bool (decide (∀j (h:j<p.names.length),i<=j->p.names[j]∉p.names.take j))):=by
   intro k;induction k with
   |zero=>
     intro i hi;rw[Q_];have:¬i<p.names.length:=by omega
     have h2:∀j (h:j<p.names.length),i<=j->p.names[j]∉p.names.take j:=λj h h'=>by omega
     simp[this];exact h2
   |succ k ih=>
     intro i hi;have h:i<p.names.length:=by omega
     have nx:=ih (i+1) (by omega);push_cast at nx;rw[Q_];have sl:Cz 1 (N7 p.names) none (some (iI (i:Int)))=some (N7 (p.names.take i)):=xA (by omega) 1;simp[h,sl,L_ h,iO (p.names.take i) (by simp;omega),O8 (show i<9223372036854775807 by omega),nx];by_cases hm:p.names[i]∈p.names.take i
     ·simp only[lV.2 hm,H5,sF]
      congr 2;symm;rw[Q8];exact λhh=>hh i h (zeq _) hm
     ·have TV:¬(Vi (p.names.take i) p.names[i]=true):=λh=>hm (lV.1 h);have C8E:Vi (p.names.take i) p.names[i]=false:=by simpa using TV
      simp only[C8E,z1q,F9]
      congr 2;rw[decide_eq_decide];constructor
      ·intro hh j hj PM;rcases ydq i j with h1 | h1
       ·exact hh j hj h1
       ·have:i=j:=by omega
        subst this;exact hm
      ·intro hh j hj PM;exact hh j hj (by omega)
  have l0:=loop p.names.length 0 (by omega);simp only[zjq,zlq,zbq]at l0;rw[l0];congr 2;rw[decide_eq_decide,<- A9e];simp
variable (es:List (DV×DV))
def B3n(s:ByteArray):DV:=(AQ es (.str s)).getD (iI 0)
def ji(a b c e:H7)(n:Int)(es:List (DV×DV)):List H7:=[a,.box [(iI n,.val)],.map true es,.box [(.undef,.map 2)],e]
theorem B9l(t0 t6:DV)(a b c e:H7)(n:Int)(es:List (DV×DV)):BN C9 t0 t6 .ret (ji a b c e n es)=some (iI n):=by rw[QR];rfl
theorem C3s(t0 t6:DV)(a b c e:H7)(n:Int)(es:List (DV×DV)):BN C9 t0 t6 .normal (ji a b c e n es)=some (iI 0):=by rw[NU];rfl
def B02(t0 t6:DV)(a b c e:H7):∀(ps:List E8)(pre:List ByteArray)(es:List (DV×DV)),(∀q∈ps,q.texts)->pre.Nodup->(∀s,B3n es s=.int .i64 (if Vi pre s=true then 1 else 0))->
 Fe C9 t0 t6 (ps.map E8.A9) (ji a b c e 0 es)=some (iI (if ps.all E8.one=true/\(pre++ps.flatMap RZ).Nodup then 0 else 1))
 |[],pre,es,_,hn,_=>by rw[zfq,UB,C3s];simp[hn]
 |q::ps,pre,es,hx,hn,hc=>by
   rw[z9q,TH,WB];have hq:=hx q (zIq ..);simp only[Sr,F4,E8.pj,E8.M5,E8.ag,B0B q hq,F8,P9,J5,P6];have sg1:Q7 (ji a b c e 0 es) 1=some [(iI 0,.val)]:=rfl;have sg3:Q7 (ji a b c e 0 es) 3=some [(.undef,.map 2)]:=rfl;have set1:(ji a b c e 0 es).set 1 (.box ([((iI 0:DV),H6.val)].set 0 (iI 1,.val)))=ji a b c e 1 es:=rfl;have g0:[((iI 0:DV),H6.val)][0]?=some (iI 0,.val):=rfl;have cm:Vy [((.undef:DV),H6.map 2)] 0=some 2:=rfl;have sm:X0 (ji a b c e 0 es) 2=some (true,es):=rfl;cases h1:q.one
   ·simp only[zoq,H5,sg1,F8,g0,set1,B9l]
    simp[h1]
   ·simp only[zgq,z1q,F9]
    have rest:∀(pre':List ByteArray)(es':List (DV×DV)),pre'.Nodup->(∀s,B3n es' s=.int .i64 (if Vi pre' s=true then 1 else 0))->
     Fe C9 t0 t6 (ps.map E8.A9) (ji a b c e 0 es')=some (iI (if ps.all E8.one=true/\(pre'++ps.flatMap RZ).Nodup then 0 else 1)) :=
     λpre' es' h h'=>B02 t0 t6 a b c e ps pre' es' (λx WK=>hx x (y1q _ WK)) h h'
    rw[bH];simp only[E8.AV,E8.EU,P6,F8,E9,F5]
    by_cases h2:q.A8=2
    ·have hcq:=hc q.name;unfold B3n at hcq;have sm':(ji a b c e 0 es).set 2 (.map true (BJ es (.str q.name) (iI 1)))=ji a b c e 0 (BJ es (.str q.name) (iI 1)):=rfl;simp only[h2,H5,sg3,F8,cm,bT,zqq,F4,sm,BEq.rfl,hcq,Ah,E9,F5]
     by_cases vM:Vi pre q.name=true
     ·have h3:=lV.1 vM;simp only[vM,H5,show(0:Int)<1 by omega,L8,sg1,F8,g0,set1,B9l]
      have:¬(pre++(q::ps).flatMap RZ).Nodup:=by simp only[zWq,RZ,h2,H5,zOq,yfq];rintro⟨-,-,h⟩;exact h q.name h3 q.name (zIq ..) rfl
      rw[C8 (λh=>this h.2)]
     ·have h3:q.name∉pre:=λh=>vM (lV.2 h);simp only[vM,F9,show ¬(0:Int)<0 by omega,R4,z1q]
      rw[GJ (by omega) (by omega)];simp only[F8,Int.zero_add];rw[sm',rest (pre++[q.name]) _ (by rw[yfq];refine⟨hn,by simp,?_⟩;rintro x WK y hy rfl;simp at hy;exact h3 (hy ▸ WK)) ?_]
      ·simp[zWq,RZ,h2,h1]
      ·intro s;unfold B3n;rw[B4e];have:=hc s;unfold B3n at this;by_cases h4:q.name=s
       ·have:Vi (pre++[q.name]) s=true:=lV.2 (by simp[h4]);rw[D5 h4,D5 this];rfl
       ·have e:Vi (pre++[q.name]) s=Vi pre s:=by simp[Vi,h4]
        simp only[C8 h4,e];exact this
    ·simp only[h2,F9]
     rw[rest pre es hn hc];simp[zWq,RZ,h2,h1]
def Vq(ht:p.thin=true)(hx:p.txt):C9.p QD [p.A9]=some (iI (if p.right=true then 0 else 1)):=by
 refine(fw _).trans ?_;rw[kP];simp only[Sr,F4,E8.pj,E8.M5,E8.ag];rw[YY];obtain⟨n,hn⟩:=C1s p ht;rw[E8.K9]at hn;simp only[Q7,zpq,zmq,F8,Ce,F4,A60 hn];have:=B02 p.A9 p.A9 (.box [(iI p.A8,.val),(iI p.lo,.val),(iI p.hi,.val),(.str p.name,.val),(iI p.n,.val),(.str p.s,.val),(.list 7 (p.D6.map E8.A9),.val)])
  (.arr 1 []) (.arr 1 []) (.arr 1 []) p.subs [] [] (λq hq=>hx q hq) (by simp) (λs=>rfl)
 refine this.trans ?_;congr 2;have e:p.right=true↔(p.subs.all E8.one=true/\(([]:List ByteArray)++p.subs.flatMap RZ).Nodup):=by unfold E8.right E8.names;rw[E8.C16,E8.YG];simp
 by_cases h:p.right=true
 ·rw[D5 h,D5 (e.1 h)]
 ·rw[C8 h,C8 (λh'=>h (e.2 h'))]
@[simp] def C1e(a b c d:Int)(k:IntKind):jk [.int,.int] (.agg [.int k a,.int k b]) (.agg [.int k c,.int k d])=some (decide (a=c)&&decide (b=d)):=by
  simp only[jk,Eg,A18,H5,F8]
  by_cases h:a=c<;>by_cases h':b=d<;>simp[h,h']
theorem mE(a b:Bool):(if a=true then DV.bool b else DV.bool false)=DV.bool (a&&b):=by cases a<;>rfl
theorem C1O(a b:Bool):(if a=true then some (DV.bool b)else some (DV.bool false))=some (DV.bool (a&&b)):=by cases a<;>rfl
def B0x(a:E8):a.thin=true->∀b:E8,C9.p Uf [a.A9,b.A9]=some (.bool (decide (a.bare=b.bare))):=by
 induction a using E8.ind with
 |h a ih=>
   intro ha b;have hb:=a.Cx ha;refine(oV _ _).trans ?_;rw[t_];simp;by_cases h1:a.A8=b.A8<;>simp[h1,E8.ED];by_cases h2:a.name=b.name<;>simp[h2];by_cases h3:a.n=b.n<;>simp[h3];by_cases h4:a.s=b.s<;>simp[h4];by_cases h5:a.D6.length=b.D6.length
   ·have loop:=WL (l:=a.D6.map E8.bare) (m:=b.D6.map E8.bare) (by simpa using h5) (P:=λi=>OG C9 (iI i) a.A9 b.A9)
     (by rw[Te];simp[h5])
     (λi h=>by
       have h:i<a.D6.length:=by simpa using h
       have h':i<b.D6.length:=by omega
       rw[Te];simp[h,h',J3 h,J3 h',E8.M5,E8.ag,ih _ (z0q h) (E8.Fa ha (z0q h)),O8 (show i<9223372036854775807 by omega)])
    simp only[z3q,h5]at loop ⊢;simp[loop]
   ·have:a.D6.map E8.bare≠b.D6.map E8.bare:=λh=>h5 (by have:=congrArg List.length h;simpa using this);simp[zuq,h5,this]
def B43(a:E8):a.thin=true->∀b:E8,a.bare=b.bare->C9.p Zr [a.A9,b.A9]=some (.bool (decide (a=b))):=by
 induction a using E8.ind with
 |h a ih=>
   intro ha b he;have hb:=a.Cx ha;rw[E8.ED]at he;simp at he;obtain⟨e1,e2,e3,e4,e5⟩:=he;have h5:a.D6.length=b.D6.length:=by have:=congrArg List.length e5;simpa using this
   refine(A0z _ _).trans ?_;rw[A2q];simp[E8.ED,e1,e2,e3,e4];by_cases h1:a.lo=b.lo<;>simp[h1];by_cases h2:a.hi=b.hi<;>simp[h2];have loop:=WL (l:=a.D6) (m:=b.D6) h5 (P:=λi=>SL C9 (iI i) a.A9 b.A9)
    (by rw[XU];simp[h5])
    (λi h=>by
      have h':i<b.D6.length:=by omega
      have e6:a.D6[i].bare=b.D6[i].bare:=by
       have:(a.D6.map E8.bare)[i]'(by simpa using h)=(b.D6.map E8.bare)[i]'(by simpa using h'):=by simp only[e5]
       simpa using this
      rw[XU];simp[h,h',J3 h,J3 h',E8.M5,E8.ag,ih _ (z0q h) (E8.Fa ha (z0q h)) _ e6,O8 (show i<9223372036854775807 by omega)])
   simp[loop]
def B6f(a:Ex):a.fit->∀b:Ex,C9.p gN [a.A9,b.A9]=some (.bool (decide (a.bare=b.bare))):=by
 induction a using Ex.ind with
 |h a ih=>
   intro ha b;have hk:=big (z5q ha.one.D6);have hp:=big (z5q ha.one.H8);refine(A2W _ _).trans ?_;rw[A5N];simp;by_cases h1:a.A8=b.A8<;>simp[h1,Ex.ED];by_cases h2:a.name=b.name<;>simp[h2];by_cases h3:a.arg=b.arg<;>simp[h3];by_cases h4:a.n=b.n<;>simp[h4];by_cases h6:a.s=b.s<;>simp[h6];by_cases h7:a.op=b.op<;>simp[h7];by_cases h8:a.H8.length=b.H8.length
   ·by_cases h5:a.D6.length=b.D6.length
    ·have loop:=WL (l:=a.D6.map Ex.bare) (m:=b.D6.map Ex.bare) (by simpa using h5) (P:=λi=>SK C9 (iI i) a.A9 b.A9)
      (by rw[XR];simp[h5])
      (λi h=>by
        have h:i<a.D6.length:=by simpa using h
        have h':i<b.D6.length:=by omega
        rw[XR];simp[h,h',J3 h,J3 h',Ex.M5,Ex.ag,ih _ (z0q h) (ha.kid (z0q h)),O8 (show i<9223372036854775807 by omega)])
     have B79:=RU (l:=a.H8.map E8.bare) (m:=b.H8.map E8.bare) (by simpa using h8) (P:=λi=>Um C9 (iI i) a.A9 b.A9) (y:=.bool (decide (a.D6.map Ex.bare=b.D6.map Ex.bare))) (n:=.bool false)
      (by rw[Yz];simp[h8,loop])
      (λi h=>by
        have h:i<a.H8.length:=by simpa using h
        have h':i<b.H8.length:=by omega
        rw[Yz];simp[h,h',J3 h,J3 h',E8.M5,E8.ag,B0x _ (E8.ZL (ha.one.pat _ (z0q h))),O8 (show i<9223372036854775807 by omega)])
     simp only[h5,h8];simp[zl,Ty.M5,Ty.ag,Ig _ ha.one.a,Ig _ ha.one.b];by_cases h9:a.a=b.a<;>simp[h9];by_cases Xx:a.b=b.b<;>simp[Xx,B79];by_cases UM:a.H8.map E8.bare=b.H8.map E8.bare<;>simp[UM]
    ·have:a.D6.map Ex.bare≠b.D6.map Ex.bare:=λh=>h5 (by have:=congrArg List.length h;simpa using this);simp[zuq,h5,h8,this]
   ·have:a.H8.map E8.bare≠b.H8.map E8.bare:=λh=>h8 (by have:=congrArg List.length h;simpa using this);simp[zuq,h8,this]
def B2D(a:Ex):a.fit->∀b:Ex,C9.p WV [a.A9,b.A9]=some (.bool (decide (a=b))):=by
 induction a using Ex.ind with
 |h a ih=>
   intro ha b;have hk:=big (z5q ha.one.D6);have hp:=big (z5q ha.one.H8);refine(uj _ _).trans ?_;rw[zk];simp[Ex.M5,Ex.ag,B6f a ha];by_cases he:a.bare=b.bare
   ·rw[D5 he];rw[Ex.ED]at he;simp at he;obtain⟨e1,e2,e3,e4,e5,e6,e7,e8,e9,e10⟩:=he;have h5:a.D6.length=b.D6.length:=by have:=congrArg List.length e10;simpa using this
    have h8:a.H8.length=b.H8.length:=by have:=congrArg List.length e9;simpa using this
    have loop:=WL (l:=a.D6) (m:=b.D6) h5 (P:=λi=>QG C9 (iI i) a.A9 b.A9)
     (by rw[VQ];simp[h5])
     (λi h=>by
       have h':i<b.D6.length:=by omega
       rw[VQ];simp[h,h',J3 h,J3 h',Ex.M5,Ex.ag,ih _ (z0q h) (ha.kid (z0q h)),O8 (show i<9223372036854775807 by omega)])
    have B79:=RU (l:=a.H8) (m:=b.H8) h8 (P:=λi=>QF C9 (iI i) a.A9 b.A9) (y:=.bool (decide (a.D6=b.D6))) (n:=.bool false)
     (by rw[VP];simp[h8,loop])
     (λi h=>by
       have h':i<b.H8.length:=by omega
       have e11:a.H8[i].bare=b.H8[i].bare:=by
        have:(a.H8.map E8.bare)[i]'(by simpa using h)=(b.H8.map E8.bare)[i]'(by simpa using h'):=by simp only[e9]
        simpa using this
       rw[VP];simp[h,h',J3 h,J3 h',E8.M5,E8.ag,B43 _ (E8.ZL (ha.one.pat _ (z0q h))) _ e11,O8 (show i<9223372036854775807 by omega)])
    simp[Ex.ED,e1,e2,e3,e4,e5,e6,e7,e8];by_cases h1:a.lo=b.lo<;>simp[h1];by_cases h2:a.hi=b.hi<;>simp[h2,B79];by_cases UM:a.H8=b.H8<;>simp[UM]
   ·have:a≠b:=λh=>he (by rw[h]);rw[C8 he];simp[this]
def Ab(np:Nat):DV:=.agg [.bool (U2 k),.bool (Y7 k),.bool (kN k),.bool (kS k),.bool (BU k),.bool (Bi k),.bool (U9 k),.bool (V5 k),.bool (U8 k),.bool (kA k),.bool (kB k),.bool (Q9 k),iI (R7 k np)]
variable (t:Tm)
def A9K(ht:t.Pv):∃d,C9.p SC [t.A9]=some (.I4 [d,.bool (Cy t.A8 t.H8.length)])/\(Cy t.A8 t.H8.length=true->d=Ab t.A8 t.H8.length)/\E5 13 d=true:=by
 have hp:=big (z5q ht.H8);suffices h:∃d,Sa C9 t.A9=some (.I4 [d,.bool (Cy t.A8 t.H8.length)])/\(Cy t.A8 t.H8.length=true->d=Ab t.A8 t.H8.length)/\E5 13 d=true by obtain⟨d,h1,h2⟩:=h;exact⟨d,A4H _ h1,h2⟩
 rw[oM];have fl:∀{a b c d e f g h i j k l:Bool}{n:Int},E5 13 (.agg [.bool a,.bool b,.bool c,.bool d,.bool e,.bool f,.bool g,.bool h,.bool i,.bool j,.bool k,.bool l,iI n])=true:=rfl;by_cases k14:t.A8=14
 ·have h1:D7 .add (iI (t.H8.length:Int)) (iI 1)=some (iI ((t.H8.length:Int)+1)):=GJ (by omega) (by omega);simp[k14,h1,Cy,Ab,U2,Y7,kN,kS,BU,Bi,U9,V5,U8,kA,kB,Q9,R7,fl]
 by_cases k1:t.A8=1
 ·simp[k1,Cy,Ab,U2,Y7,kN,kS,BU,Bi,U9,V5,U8,kA,kB,Q9,R7,fl]
 by_cases k2:t.A8=2
 ·simp[k2,Cy,Ab,U2,Y7,kN,kS,BU,Bi,U9,V5,U8,kA,kB,Q9,R7,fl]
 by_cases k3:t.A8=3
 ·simp[k3,Cy,Ab,U2,Y7,kN,kS,BU,Bi,U9,V5,U8,kA,kB,Q9,R7,fl]
 by_cases k4:t.A8=4
 ·simp[k4,Cy,Ab,U2,Y7,kN,kS,BU,Bi,U9,V5,U8,kA,kB,Q9,R7,fl]
 by_cases k5:t.A8=5
 ·simp[k5,Cy,Ab,U2,Y7,kN,kS,BU,Bi,U9,V5,U8,kA,kB,Q9,R7,fl]
 by_cases k6:t.A8=6
 ·simp[k6,Cy,Ab,U2,Y7,kN,kS,BU,Bi,U9,V5,U8,kA,kB,Q9,R7,fl]
 by_cases k7:t.A8=7
 ·simp[k7,Cy,Ab,U2,Y7,kN,kS,BU,Bi,U9,V5,U8,kA,kB,Q9,R7,fl]
 by_cases k8:t.A8=8
 ·simp[k8,Cy,Ab,U2,Y7,kN,kS,BU,Bi,U9,V5,U8,kA,kB,Q9,R7,fl]
 by_cases k9:t.A8=9
 ·simp[k9,Cy,Ab,U2,Y7,kN,kS,BU,Bi,U9,V5,U8,kA,kB,Q9,R7,fl]
 by_cases k10:t.A8=10
 ·simp[k10,Cy,Ab,U2,Y7,kN,kS,BU,Bi,U9,V5,U8,kA,kB,Q9,R7,fl]
 by_cases k11:t.A8=11
 ·simp[k11,Cy,Ab,U2,Y7,kN,kS,BU,Bi,U9,V5,U8,kA,kB,Q9,R7,fl]
 by_cases k12:t.A8=12
 ·simp[k12,Cy,Ab,U2,Y7,kN,kS,BU,Bi,U9,V5,U8,kA,kB,Q9,R7,fl]
 by_cases k13:t.A8=13
 ·simp[k13,Cy,Ab,U2,Y7,kN,kS,BU,Bi,U9,V5,U8,kA,kB,Q9,R7,fl]
 by_cases k15:t.A8=15
 ·simp[k15,Cy,Ab,U2,Y7,kN,kS,BU,Bi,U9,V5,U8,kA,kB,Q9,R7,fl]
 by_cases k16:t.A8=16
 ·simp[k16,Cy,Ab,U2,Y7,kN,kS,BU,Bi,U9,V5,U8,kA,kB,Q9,R7,fl]
 ·have hk:Cy t.A8 t.H8.length=false:=by unfold Cy;rw[zXq];intro h;simp only[zrq,F5]at h;omega
  simp[hk,k1,k2,k3,k4,k5,k6,k7,k8,k9,k10,k11,k12,k13,k14,k15,k16,fl]
def B5h(t:Ty):C9.p qU [t.A9]=some (.bool t.none):=by refine(A0I _).trans ?_;rw[A2z];simp[Ty.none];by_cases h1:t.A8=0<;>by_cases h2:t.n=0<;>simp[h1,h2]
def A1f(h:Bool)(t:Ty)(ht:t.thin=true):C9.p Wl [.bool h,t.A9]=some (.bool (z8 h t)):=by
 refine(vD _ _).trans ?_;rw[A0k];cases h
 ·simp[Ty.M5,Ty.ag,B5h,z8]
 ·simp[Ty.M5,Ty.ag,DI t ht,z8]
def A1e(h:Bool)(s:ByteArray)(hs:s.size<=4294967000):C9.p Wi [.bool h,.str s]=some (.bool (Ap h s)):=by
 refine(vB _ _).trans ?_;rw[A0f];cases h
 ·simp[Ap,Co]
 ·simp[Ap,A32 s (by unfold J9;omega)]
def B2M(ht:t.Pv):C9.p Ev [t.A9]=some (.bool t.lists):=by
 have hv:=big (z5q ht.vars);have ha:=big (z5q ht.args);have hp:=big (z5q ht.H8);refine(u_ _).trans ?_;have l3:=bV (l:=t.H8) (f:=E8.right) (P:=λi=>OO C9 (.list 7 (t.H8.map E8.A9)) (iI t.H8.length) (iI i))
  (by rw[Tp];simp)
  (λi h=>by rw[Tp];have f:=ht.pat _ (z0q h);simp[h,J3 h,E8.M5,E8.ag,Vq _ (E8.ZL f) f.txt,O8 (show i<9223372036854775807 by omega)];cases t.H8[i].right<;>rfl)
 have l2:=Kt (l:=t.args) (f:=Ty.right) (P:=λi=>QL C9 (.list 3 (t.args.map Ty.A9)) (iI t.args.length) (iI i) t.A9) (y:=.bool (t.H8.all E8.right)) (n:=.bool false)
  (by rw[VY];simp[l3])
  (λi h=>by rw[VY];simp[h,J3 h,Ty.M5,Ty.ag,DI _ (ht.A9S _ (z0q h)),O8 (show i<9223372036854775807 by omega)];cases t.args[i].right<;>rfl)
 have l1:=Kt (l:=t.vars) (f:=λv=>decide (0<=v)&&decide (v<=1048576)) (P:=λi=>QK C9 (K6 t.vars) (iI t.vars.length) (iI i) t.A9) (y:=.bool (t.args.all Ty.right&&t.H8.all E8.right)) (n:=.bool false)
  (by rw[VX];simp only[J6,zcq,R4,F8,E9,z1q,F9,Tm.Kw,N8,z3q,l2,mE])
  (λi h=>by
    rw[VX];simp[h,Bg h,O8 (show i<9223372036854775807 by omega)];by_cases h1:t.vars[i]<0
    ·simp[h1,show ¬ 0<=t.vars[i]by omega]
    ·by_cases h2:1048576<t.vars[i]
     ·simp[h1,h2,show ¬t.vars[i]<=1048576 by omega]
     ·simp[h1,h2,show 0<=t.vars[i]by omega,show t.vars[i]<=1048576 by omega])
 rw[A0e];simp only[I8,F4,Tm.PP,Gx,F8,l1,mE,Tm.lists,y7q]
def B6o(ht:t.Pv):C9.p wV [t.A9]=some (.bool t.one):=by
 refine(A29 _).trans ?_;obtain⟨d,h1,h2,h3⟩:=A9K t ht;rw[A5Z];have x0:∀b,K5 0 (.I4 [d,.bool b])=some d:=λ_=>rfl;have x1:∀b,K5 1 (.I4 [d,.bool b])=some (.bool b):=λ_=>rfl;simp only[I8,F4,Tm.pj,I7,Tm.M5,Tm.ag,Ty.M5,Ty.ag,h1,x0,x1,F8,h3,P9,J5];cases hk:Cy t.A8 t.H8.length
 ·simp[Tm.one,hk]
 rw[h2 hk];have p0:A7 0 (Ab t.A8 t.H8.length)=.bool (U2 t.A8):=rfl;have p1:A7 1 (Ab t.A8 t.H8.length)=.bool (Y7 t.A8):=rfl;have p2:A7 2 (Ab t.A8 t.H8.length)=.bool (kN t.A8):=rfl;have p3:A7 3 (Ab t.A8 t.H8.length)=.bool (kS t.A8):=rfl;have p4:A7 4 (Ab t.A8 t.H8.length)=.bool (BU t.A8):=rfl;have p5:A7 5 (Ab t.A8 t.H8.length)=.bool (Bi t.A8):=rfl;have p6:A7 6 (Ab t.A8 t.H8.length)=.bool (U9 t.A8):=rfl;have p7:A7 7 (Ab t.A8 t.H8.length)=.bool (V5 t.A8):=rfl;have p8:A7 8 (Ab t.A8 t.H8.length)=.bool (U8 t.A8):=rfl;have p9:A7 9 (Ab t.A8 t.H8.length)=.bool (kA t.A8):=rfl;have p10:A7 10 (Ab t.A8 t.H8.length)=.bool (kB t.A8):=rfl;have p11:A7 11 (Ab t.A8 t.H8.length)=.bool (Q9 t.A8):=rfl;have p12:A7 12 (Ab t.A8 t.H8.length)=.int .i64 (R7 t.A8 t.H8.length):=rfl;have UN:VA C9 t.A9 (Ab t.A8 t.H8.length)=some (.bool t.Nj):=by rw[uO];simp only[p6,p7,p8,Tm.pj,I7,Tm.M5,Tm.ag,B2M t ht,N8,Gx,z3q,F8,P9,J5,E9,Ah,Tm.Nj];cases U9 t.A8<;>cases V5 t.A8<;>cases U8 t.A8<;>by_cases v:t.vars.length=0<;>by_cases a:t.args.length=0<;>by_cases p:t.H8.length=0<;>simp[v,a,p,Nat.pos_iff_ne_zero]
 have Xx:Lc C9 t.A9 (Ab t.A8 t.H8.length)=some (.bool t.Mc):=by
  rw[uN];simp only[p11,Tm.pm,Tm.YK,UN,F8,P9,J5,E9,Ah,J6,Z6,Tm.Mc]
  by_cases a:t.label<0
  ·have a':¬ 0<=t.label:=by omega
   cases Q9 t.A8<;>cases t.neg<;>by_cases v:t.label=0<;>simp[a,a',v]
  ·have a':0<=t.label:=by omega
   by_cases p:1048576<t.label
   ·have p':¬t.label<=1048576:=by omega
    cases Q9 t.A8<;>cases t.neg<;>by_cases v:t.label=0<;>simp[a,a',p,p',v]
   ·have p':t.label<=1048576:=by omega
    cases Q9 t.A8<;>cases t.neg<;>by_cases v:t.label=0<;>simp[a,a',p,p',v]
 have h8:NL C9 t.A9 (Ab t.A8 t.H8.length)=some (.bool t.LX):=by
  rw[A0i];simp only[p4,Tm.pY,Xx,F8,P9,J5,E9,Ah,J6,Z6,Tm.LX];cases BU t.A8
  ·by_cases v:t.op=0<;>simp[v]
  ·by_cases a:t.op<1
   ·simp[a,show ¬ 1<=t.op by omega]
   ·by_cases p:7<t.op
    ·simp[a,p,show ¬t.op<=7 by omega]
    ·simp[a,p,show 1<=t.op by omega,show t.op<=7 by omega]
 have hs:∀n:Nat,D7 .gtr (iI (n:Int)) (iI 200)=some (.bool (decide (200<n))):=λn=>by rw[Ah];congr 2;rw[decide_eq_decide];omega
 have h6:Ih C9 t.A9 (Ab t.A8 t.H8.length)=some (.bool t.LW):=by
  rw[A0h];simp only[p3,p5,Tm.MO,Tm.Ju,Tm.En,h8,F8,P9,J5,E9,Gw,hs,Co,A16,C1e,Tm.LW];generalize t.s.size=z;by_cases a:200<z
  ·have:¬z<=200:=by omega
   cases kS t.A8<;>by_cases v:t.s=S9<;>simp[a,v,this]
  ·have:z<=200:=by omega
   cases kS t.A8<;>cases Bi t.A8<;>by_cases v:t.s=S9<;>by_cases x:t.lo=0<;>by_cases y:t.hi=0<;>simp[a,v,x,y,this]
 have h4:jR C9 t.A9 (Ab t.A8 t.H8.length)=some (.bool t.Kv):=by rw[A0g];simp only[p2,Tm.Du,Tm.AV,h6,F8,P9,J5,E9,Z6,P6,Tm.Kv];cases kN t.A8<;>by_cases v:t.A8=3<;>by_cases x:t.n=0<;>by_cases y:t.n=1<;>simp[v,x,y]
 simp only[p0,p1,p9,p10,p12,A1e _ _ ht.name,A1e _ _ ht.arg,A1f _ _ ht.a,A1f _ _ ht.b,h4,N8,z3q,F8,P9,J5,E9,Z6,Tm.one,hk]
 by_cases v:(t.D6.length:Int)=R7 t.A8 t.H8.length<;>cases Ap (U2 t.A8) t.name<;>cases Ap (Y7 t.A8) t.arg<;>cases z8 (kA t.A8) t.a<;>cases z8 (kB t.A8) t.b<;>simp[v]
def fD:t.fit->C9.p Qj [t.A9]=some (.bool t.right):=by
 induction t using Tm.ind with
 |h t ih=>
   intro ht;have hk:=big (z5q ht.one.D6);refine(vC _).trans ?_;have loop:=bV (l:=t.D6) (f:=Tm.right) (P:=λi=>QM C9 (.list 20 (t.D6.map Tm.A9)) (iI t.D6.length) (iI i))
    (by rw[VZ];simp)
    (λi h=>by rw[VZ];simp[h,J3 h,Tm.M5,Tm.ag,ih _ (z0q h) (ht.kid (z0q h)),O8 (show i<9223372036854775807 by omega)];cases t.D6[i].right<;>rfl)
   rw[A0j,Tm.right_eq];simp[Tm.M5,Tm.ag,B6o t ht.one,loop];cases t.one<;>simp
theorem fC(ht:t.fit):C9.p We [t.A9]=some (iI (if t.right=true then 0 else 1)):=by refine(uy _).trans ?_;rw[A0c];simp[Tm.M5,Tm.ag,fD t ht];cases t.right<;>rfl
def Tm.Cg:t.gZ.A9=.agg [iI t.A8,iI (if Bi t.A8=true then t.lo else 0),iI (if Bi t.A8=true then t.hi else 0),.str (if U2 t.A8=true then t.name else S9),.str (if Y7 t.A8=true then t.arg else S9),iI (if kN t.A8=true then t.n else 0),
 .str (if kS t.A8=true then t.s else S9),iI (if BU t.A8=true then t.op else 0),iI (if Q9 t.A8=true then t.label else 0),.bool (if Q9 t.A8=true then t.neg else false),K6 (if U9 t.A8=true then t.vars else[]),
 .int .i64 (if kA t.A8=true then t.a else .mk 0 0 []).A8,iI (if kA t.A8=true then t.a else .mk 0 0 []).n,.list 3 ((if kA t.A8=true then t.a else .mk 0 0 []).D6.map Ty.A9),
 .int .i64 (if kB t.A8=true then t.b else .mk 0 0 []).A8,iI (if kB t.A8=true then t.b else .mk 0 0 []).n,.list 3 ((if kB t.A8=true then t.b else .mk 0 0 []).D6.map Ty.A9),
 .list 3 ((if V5 t.A8=true then t.args else[]).map Ty.A9),.list 7 ((if U8 t.A8=true then t.H8 else[]).map E8.A9),.list 20 []]:=Tm.K9 t.gZ
def B6j(ht:t.Pv):C9.p wT [t.A9]=some (.I4 [t.gZ.A9,iI t.Hg]):=by
 have hp:=big (z5q ht.H8);refine(A20 _).trans ?_;have h25:¬(t.A8=1)->¬(t.A8=2)->¬(t.A8=3)->¬(t.A8=4)->¬(t.A8=5)->¬(t.A8=6)->¬(t.A8=7)->¬(t.A8=8)->¬(t.A8=9)->¬(t.A8=10)->
  dH C9 (iI t.A8) t.A9 (.str S9) (.str S9) (.str S9) (iI t.A8) (.str S9) (.str S9) (.str S9)=some (.I4 [t.gZ.A9,iI t.Hg]):=by
  intro k1 k2 k3 k4 k5 k6 k7 k8 k9 k10;rw[uF];by_cases k11:t.A8=11
  ·simp[Co,Tm.Cg,Tm.Hg,k11,U2,Y7,kN,kS,BU,Bi,U9,V5,U8,kA,kB,Q9,R7,K6]
  by_cases k12:t.A8=12
  ·simp[Co,Tm.Cg,Tm.Hg,k12,U2,Y7,kN,kS,BU,Bi,U9,V5,U8,kA,kB,Q9,R7,K6]
  by_cases k13:t.A8=13
  ·simp[Co,Tm.Cg,Tm.Hg,k13,U2,Y7,kN,kS,BU,Bi,U9,V5,U8,kA,kB,Q9,R7,K6]
  by_cases k14:t.A8=14
  ·have h1:D7 .add (iI (t.H8.length:Int)) (iI 1)=some (iI ((t.H8.length:Int)+1)):=GJ (by omega) (by omega);simp[Co,Tm.Cg,Tm.Hg,k14,h1,U2,Y7,kN,kS,BU,Bi,U9,V5,U8,kA,kB,Q9,R7,K6]
  by_cases k15:t.A8=15
  ·simp[Co,Tm.Cg,Tm.Hg,k15,U2,Y7,kN,kS,BU,Bi,U9,V5,U8,kA,kB,Q9,R7,K6]
  by_cases k16:t.A8=16
  ·simp[Co,Tm.Cg,Tm.Hg,k16,U2,Y7,kN,kS,BU,Bi,U9,V5,U8,kA,kB,Q9,R7,K6]
  have hk:¬(1<=t.A8/\t.A8<=16):=by omega
  simp[Co,Tm.Cg,Tm.Hg,hk,k1,k2,k3,k4,k5,k6,k7,k8,k9,k10,k11,k12,k13,k14,k15,k16,U2,Y7,kN,kS,BU,Bi,U9,V5,U8,kA,kB,Q9,R7,K6]
 rw[A5Q];simp only[Co]
 by_cases k1:t.A8=1
 ·simp[Co,Tm.Cg,Tm.Hg,k1,U2,Y7,kN,kS,BU,Bi,U9,V5,U8,kA,kB,Q9,R7,K6]
 by_cases k2:t.A8=2
 ·simp[Co,Tm.Cg,Tm.Hg,k2,U2,Y7,kN,kS,BU,Bi,U9,V5,U8,kA,kB,Q9,R7,K6]
 by_cases k3:t.A8=3
 ·simp[Co,Tm.Cg,Tm.Hg,k3,U2,Y7,kN,kS,BU,Bi,U9,V5,U8,kA,kB,Q9,R7,K6]
 by_cases k4:t.A8=4
 ·simp[Co,Tm.Cg,Tm.Hg,k4,U2,Y7,kN,kS,BU,Bi,U9,V5,U8,kA,kB,Q9,R7,K6]
 by_cases k5:t.A8=5
 ·simp[Co,Tm.Cg,Tm.Hg,k5,U2,Y7,kN,kS,BU,Bi,U9,V5,U8,kA,kB,Q9,R7,K6]
 by_cases k6:t.A8=6
 ·simp[Co,Tm.Cg,Tm.Hg,k6,U2,Y7,kN,kS,BU,Bi,U9,V5,U8,kA,kB,Q9,R7,K6]
 by_cases k7:t.A8=7
 ·simp[Co,Tm.Cg,Tm.Hg,k7,U2,Y7,kN,kS,BU,Bi,U9,V5,U8,kA,kB,Q9,R7,K6]
 by_cases k8:t.A8=8
 ·simp[Co,Tm.Cg,Tm.Hg,k8,U2,Y7,kN,kS,BU,Bi,U9,V5,U8,kA,kB,Q9,R7,K6]
 by_cases k9:t.A8=9
 ·simp[Co,Tm.Cg,Tm.Hg,k9,U2,Y7,kN,kS,BU,Bi,U9,V5,U8,kA,kB,Q9,R7,K6]
 by_cases k10:t.A8=10
 ·simp[Co,Tm.Cg,Tm.Hg,k10,U2,Y7,kN,kS,BU,Bi,U9,V5,U8,kA,kB,Q9,R7,K6]
 simp[k1,k2,k3,k4,k5,k6,k7,k8,k9,k10,h25]
def gp:Ex:=.mk 14 0 0 S9 S9 0 S9 0 (.mk 0 0 []) (.mk 0 0 []) [p] []
def B9C{p:E8}(h:p.fit):(gp p).fit:=by
 have t0:(Ty.mk 0 0 []).thin=true:=by rw[Ty.Ns];simp[J9]
 have t1:(Ty.mk 0 0 []).CL<=J9:=by rw[Ty.cO];simp[J9]
 refine .mk _ ⟨?_,?_,?_,t0,t0,t1,t1,?_,?_,?_⟩ λk hk=>by simp[gp]at hk
 ·show S9.size<=_;exact zMq _
 ·show S9.size<=_;exact zMq _
 ·show S9.size<=_;exact zMq _
 ·simp[gp,J9]
 ·simpa[gp]using h
 ·simp[gp,J9]
def A8t{e : α->DV}{sz:Nat}{l:List α}{i:Nat}(h:i<l.length):Cz sz (.list sz (l.map e)) (some (iI (i:Int))) (some (iI ((i+1:Nat):Int)))=some (.list sz [e l[i]]):=by
 have e1:((l.map e).take (i+1)).drop i=[e l[i]]:=by rw[List.drop_take,show i+1-i=1 by omega,z2q (by simpa using h)];simp
 simp only[Cz,bnd,F8,y4q,H5,yaq,z3q,true_and];rw[D5 ⟨by omega,by omega⟩,e1]
structure Tm.B2Y(t:Tm):Prop where
 vars:t.vars.length<J9
 a:t.a.thin=true
 b:t.b.thin=true
 args:t.args.length<J9
 A9S:∀y∈t.args,y.thin=true
 H8:t.H8.length<J9
 pat:∀p∈t.H8,p.fit
def Tm.Pv.toS{t:Tm}(h:t.Pv):t.B2Y:=⟨h.vars,h.a,h.b,h.args,h.A9S,h.H8,h.pat⟩
def A31(a:Tm)(ha:a.B2Y)(b:Tm):C9.p WY [a.A9,b.A9]=some (.bool (a.aM b)):=by
 have hv:=big (z5q ha.vars);have hp:=big (z5q ha.H8);refine(A22 _ _).trans ?_;have h3:jP C9 a.A9 b.A9=some (.bool (decide (a.args=b.args)&&decide (a.a=b.a)&&decide (a.b=b.b)&&decide (a.vars=b.vars)&&decide (a.H8=b.H8))):=by
  rw[zq];simp[Ty.M5,Ty.ag,B0w _ _ (z5q ha.args) ha.A9S,Ig _ ha.a,Ig _ ha.b,zuq];by_cases e1:a.vars.length=b.vars.length
  ·by_cases e2:a.H8.length=b.H8.length
   ·have l2:=WL (l:=a.H8) (m:=b.H8) e2 (P:=λi=>SY C9 (iI i) a.A9 b.A9)
     (by rw[Xa];simp[e2])
     (λi h=>by
       have h':i<b.H8.length:=by omega
       rw[Xa];have f:=B9C (ha.pat _ (z0q h));have eA:∀p:E8,DV.agg ((iI 14)::(Qe (cZ (Bz (Bz [.list 7 [p.A9],.list 16 []])))))=(gp p).A9:=λp=>by rw[Ex.K9];rfl
       have d1:=A8t (e:=E8.A9) (sz:=7) h;have d2:=A8t (e:=E8.A9) (sz:=7) h';simp only[Tm.A9l,N8,z3q,F8,J6,zhq,h,L8,E9,H5,O8 (show i<9223372036854775807 by omega),d1,d2,rR,F4,eA,B2D _ f,P9]
       have:(gp a.H8[i]=gp b.H8[i])↔a.H8[i]=b.H8[i]:=by simp[gp]
       simp only[this]
       by_cases h9:a.H8[i]=b.H8[i]<;>simp[h9])
    have l1:=RU (l:=a.vars) (m:=b.vars) e1 (P:=λi=>Uv C9 (iI i) a.A9 b.A9) (y:=.bool (decide (a.H8=b.H8))) (n:=.bool false)
     (by rw[ZC];simp[e1,l2])
     (λi h=>by
       have h':i<b.vars.length:=by omega
       rw[ZC];simp[h,h',Bg h,Bg h',O8 (show i<9223372036854775807 by omega)])
    simp only[e1,e2,H5,l1]
    by_cases h1:a.args=b.args<;>by_cases h2:a.a=b.a<;>by_cases h3:a.b=b.b<;>by_cases h4:a.vars=b.vars<;>simp[h1,h2,h3,h4]
   ·have:a.H8≠b.H8:=λh=>e2 (by rw[h]);simp[e1,e2,this]
  ·have:a.vars≠b.vars:=λh=>e1 (by rw[h]);simp[e1,this]
 rw[A5S];simp[h3,Tm.aM];by_cases h1:a.A8=b.A8<;>simp[h1];by_cases h2:a.lo=b.lo<;>simp[h2];by_cases h4:a.hi=b.hi<;>simp[h4];by_cases h5:a.name=b.name<;>simp[h5];by_cases h6:a.arg=b.arg<;>simp[h6];by_cases h7:a.n=b.n<;>simp[h7];by_cases h8:a.s=b.s<;>simp[h8];by_cases h9:a.op=b.op<;>simp[h9];by_cases Xx:a.label=b.label<;>simp[Xx];by_cases UM:a.neg=b.neg<;>simp[UM]
def B6l(a:Tm)(ha:a.Pv)(b:Tm):C9.p WY [a.A9,b.A9]=some (.bool (a.aM b)):=A31 a ha.toS b
def B8L(ht:t.Pv):C9.p A1r [t.A9]=some (.bool t.one):=by
 have hv:=big (z5q ht.vars);have ha:=big (z5q ht.args);have hp:=big (z5q ht.H8);have hs:∀n:Nat,D7 .leq (iI (n:Int)) (iI 200)=some (.bool (decide (n<=200))):=λn=>by rw[BH];congr 2;rw[decide_eq_decide];omega
 have hz:∀n:Nat,D7 .gtr (iI (n:Int)) (iI 0)=some (.bool (decide (0<n))):=λn=>by rw[Ah];congr 2;rw[decide_eq_decide];omega
 refine(A6a _).trans ?_;have l3:=Kt (l:=t.H8) (f:=E8.right) (P:=λi=>Uy C9 (iI i) t.A9) (y:=.bool t.Md) (n:=.bool false)
  (by
    rw[ZG];simp only[Tm.pj,I7,N8,z3q,F8,J6,zcq,R4,E9,J5,z1q,F9,P6,F5,aU _ ht.name,aU _ ht.arg,Ty.M5,Ty.ag,nA _ ht.a,nA _ ht.b,Gw,hs,hz,Ki,BH,Tm.Md,B9S,B4b]
    simp only[ycq,Bool.if_false_right,Bool.decide_eq_true,y7q])
  (λi h=>by rw[ZG];have f:=ht.pat _ (z0q h);simp[h,J3 h,E8.M5,E8.ag,A9G _ f.size f.txt,O8 (show i<9223372036854775807 by omega)];cases t.H8[i].right<;>rfl)
 have l2:=Kt (l:=t.vars) (f:=λv=>decide (0<=v)&&decide (v<=1048576)) (P:=λi=>Ux C9 (iI i) t.A9) (y:=.bool (t.H8.all E8.right&&t.Md)) (n:=.bool false)
  (by rw[ZF];simp only[Tm.PP,Gx,J6,zcq,R4,F8,E9,z1q,F9,l3,mE])
  (λi h=>by
    rw[ZF];simp[h,Bg h,O8 (show i<9223372036854775807 by omega)];by_cases h1:t.vars[i]<0
    ·simp[h1,show ¬ 0<=t.vars[i]by omega]
    ·by_cases h2:1048576<t.vars[i]
     ·simp[h1,h2,show ¬t.vars[i]<=1048576 by omega]
     ·simp[h1,h2,show 0<=t.vars[i]by omega,show t.vars[i]<=1048576 by omega])
 have l1:=Kt (l:=t.args) (f:=Ty.right) (P:=λi=>Wz C9 (iI i) t.A9) (y:=.bool (t.vars.all (λv=>decide (0<=v)&&decide (v<=1048576))&&(t.H8.all E8.right&&t.Md))) (n:=.bool false)
  (by rw[df];simp only[Tm.Kw,N8,z3q,J6,zcq,R4,F8,E9,z1q,F9,l2,mE])
  (λi h=>by rw[df];simp[h,J3 h,Ty.M5,Ty.ag,nA _ (ht.A9S _ (z0q h)),O8 (show i<9223372036854775807 by omega)];cases t.args[i].right<;>rfl)
 have x0:∀a b,K5 0 (.I4 [a,b])=some a:=λ_ _=>rfl;have x1:∀a b,K5 1 (.I4 [a,b])=some b:=λ_ _=>rfl;rw[A8E];simp only[I8,F4,Tm.pj,I7,Tm.M5,Tm.ag,B6j t ht,x0,x1,F8,N8,z3q,Z6,J5,E9,B6l _ (Tm.B86 ht),P9,l1]
 rw[<- Tm.C30];unfold Tm.lists;by_cases h1:t.Hg=(t.D6.length:Int)
 ·cases h2:t.gZ.aM t
  ·simp[h1]
  ·simp only[h1,L8,zgq,z1q,F9,mE,C1O,zCq,y7q]
   rw[Bool.and_left_comm]
 ·simp[h1]
def Kz:t.fit->C9.p KC [t.A9]=some (.bool t.right):=by
 induction t using Tm.ind with
 |h t ih=>
   intro ht;have hk:=big (z5q ht.one.D6);refine(A0C _).trans ?_;have loop:=bV (l:=t.D6) (f:=Tm.right) (P:=λi=>SQ C9 (iI i) t.A9)
    (by rw[XY];simp)
    (λi h=>by rw[XY];simp[h,J3 h,Tm.M5,Tm.ag,ih _ (z0q h) (ht.kid (z0q h)),O8 (show i<9223372036854775807 by omega)];cases t.D6[i].right<;>rfl)
   rw[A2t,Tm.right_eq];simp[Tm.M5,Tm.ag,B8L t ht.one,loop];cases t.one<;>simp
variable (t:Ty)
def B6r:∀(i:Nat)(out:List Int)(sg:List H7)(es:List (DV×DV))(c:Int->Int)(B:Int),X0 sg i=some (false,es)->GQ es c->(∀v,0<=c v/\c v<=B)->(∀v,c v=0↔v∉out)->B+t.CL<=4611686018427387904->
 out.length+t.CL<=J9->t.thin=true->∃es' c',C9.r gX [(t.A9,.val),(.undef,.map i),(K6 out,.own)] sg=some ([K6 (t.Cj out)],sg.set i (.map false es'))/\GQ es' c'/\(∀v,0<=c' v/\c' v<=B+t.CL)/\(∀v,c' v=0↔v∉t.Cj out):=by
 induction t using Ty.ind with
 |h t ih=>
   intro i out sg es c B hm hc hb hz hB hl hth;have IM:=t.Cx hth;have Ak:=Ty.cO t;have hi:=yL hm;have loop:∀(n j:Nat)(out:List Int)(es:List (DV×DV))(c:Int->Int)(B:Int),j+n=t.D6.length->GQ es c->(∀v,0<=c v/\c v<=B)->(∀v,c v=0↔v∉out)->B+((t.D6.drop j).map Ty.CL).sum<=4611686018427387904->out.length+((t.D6.drop j).map Ty.CL).sum<=J9->
    ∃es' c',VC C9 i (K6 out) (.list 3 (t.D6.map Ty.A9)) (iI t.D6.length) (iI j) (sg.set i (.map false es))=some ([K6 ((t.D6.drop j).foldl (λl k=>k.Cj l) out)],sg.set i (.map false es'))/\GQ es' c'/\(∀v,0<=c' v/\c' v<=B+((t.D6.drop j).map Ty.CL).sum) /\(∀v,c' v=0↔v∉(t.D6.drop j).foldl (λl k=>k.Cj l) out):=by
    intro n;induction n with
    |zero=>
      intro j out es c B hj hc hb hz hB hl;have:¬j<t.D6.length:=by omega
      rw[uQ,z7q (by omega)];refine⟨es,c,by simp[this],hc,λv=>⟨(hb v).1,by simpa using(hb v).2⟩,by simpa using hz⟩
    |succ n ihn=>
      intro j out es c B hj hc hb hz hB hl;have h:j<t.D6.length:=by omega
      rw[z2q h]at hB hl ⊢;simp only[z9q,zvq,zUq]at hB hl ⊢;obtain⟨es1,c1,h1,h2,h3,h4⟩:=ih _ (z0q h) i out (sg.set i (.map false es)) es c B (Iu hi _ _) hc hb hz (by omega) (by omega) (Ty.Fa hth (z0q h));have hv:=Ty.A6M t.D6[j] out;obtain⟨es2,c2,k1,k2,k3,k4⟩:=ihn (j+1) (t.D6[j].Cj out) es1 c1 (B+t.D6[j].CL) (by omega) h2 h3 h4 (by omega) (by omega);refine⟨es2,c2,?_,k2,λv=>⟨(k3 v).1,by have:=(k3 v).2;omega⟩,k4⟩;rw[uQ];rw[zNq]at h1;simp[h,J3 h,Ty.M5,Ty.ag,h1,O8 (show j<9223372036854775807 by omega)];push_cast at k1;exact k1
   have fin:∀(out:List Int)(es:List (DV×DV))(c:Int->Int)(B:Int),GQ es c->(∀v,0<=c v/\c v<=B)->(∀v,c v=0↔v∉out)->B+(t.D6.map Ty.CL).sum<=4611686018427387904->out.length+(t.D6.map Ty.CL).sum<=J9->
    ∃es' c',Qp C9 i (K6 out) t.A9 (sg.set i (.map false es))=some ([K6 (t.D6.foldl (λl k=>k.Cj l) out)],sg.set i (.map false es'))/\GQ es' c'/\(∀v,0<=c' v/\c' v<=B+(t.D6.map Ty.CL).sum)/\(∀v,c' v=0↔v∉t.D6.foldl (λl k=>k.Cj l) out):=by
    intro out es c B hc hb hz hB hl;have:=loop t.D6.length 0 out es c B (by omega) hc hb hz (by simpa using hB) (by simpa using hl);simp only[ziq]at this;obtain⟨es',c',k1,k2⟩:=this;refine⟨es',c',?_,k2⟩;rw[B2e];simp;exact k1
   rw[Ty.cK];by_cases h6:t.A8=6
   ·rw[D5 h6]at Ak;have hcv:=hc t.n;by_cases hn:t.n∈out
    ·have hc0:c t.n≠0:=λh=>(hz t.n).1 h hn;obtain⟨es',c',k1,k2,k3,k4⟩:=fin out (BJ es (iI t.n) (iI (c t.n+1))) _ (B+1) (hc.set t.n (c t.n+1)) (λv=>by
      have:=hb v;have:=hb t.n;by_cases e:t.n=v<;>simp[e]<;>omega) (λv=>by
      by_cases e:t.n=v
      ·subst e;simp[hn];have:=hb t.n;omega
      ·simp[e,hz v]) (by omega) (by omega)
     refine⟨es',c',(ku _ _ _ _).trans ?_,k2,λv=>⟨(k3 v).1,by have:=(k3 v).2;omega⟩,by simpa[h6,hn]using k4⟩;rw[qw];have ha:=hb t.n;have Ik:D7 .add (iI (c t.n)) (iI 1)=some (iI (c t.n+1)):=GJ (by omega) (by omega);simp[h6,hm,hcv,hc0,Ik,k1,hn]
    ·have hc0:c t.n=0:=(hz t.n).2 hn;obtain⟨es',c',k1,k2,k3,k4⟩:=fin (out++[t.n]) (BJ es (iI t.n) (iI (c t.n+1))) _ (B+1) (hc.set t.n (c t.n+1)) (λv=>by
      have:=hb v;have:=hb t.n;by_cases e:t.n=v<;>simp[e]<;>omega) (λv=>by
      by_cases e:t.n=v
      ·subst e;simp;have:=hb t.n;omega
      ·simp only[e,F9,hz v,zzq,zJq];rw[not_or];exact⟨λh=>⟨h,λh'=>e h'.symm⟩,λh=>h.1⟩) (by omega) (by simp;omega)
     refine⟨es',c',(ku _ _ _ _).trans ?_,k2,λv=>⟨(k3 v).1,by have:=(k3 v).2;omega⟩,by simpa[h6,hn]using k4⟩;rw[qw];have ha:=hb t.n;have Ik:D7 .add (iI (c t.n)) (iI 1)=some (iI (c t.n+1)):=GJ (by omega) (by omega);have C8t:AP 1 (K6 out) (.list 1 [iI t.n])=some (K6 (out++[t.n])):=Cs (e:=λn=>DV.int .i64 n) (by omega);rw[hc0]at hcv Ik;rw[hc0]at k1;rw[show(0:Int)+1=1 from rfl]at Ik k1;simp[h6,hm,hcv,C8t,Ik,hn,k1]
   ·rw[C8 h6]at Ak;obtain⟨es',c',k1,k2,k3,k4⟩:=fin out es c B hc hb hz (by omega) (by omega);refine⟨es',c',(ku _ _ _ _).trans ?_,k2,λv=>⟨(k3 v).1,by have:=(k3 v).2;omega⟩,by simpa[h6]using k4⟩;rw[qw];rw[A7j hm]at k1;simp[h6,k1]
def B6q(hth:t.thin=true)(ht:t.CL<=J9):C9.p wW [t.A9]=some (K6 t.vars):=by refine(B3R _).trans ?_;rw[B5G];obtain⟨es',c',h,-⟩:=B6r t 0 [] [.map false []] [] (λ_=>0) 0 rfl GQ.nil (by simp) (by simp) (by unfold J9 at ht;omega) (by simpa using ht) hth;have e:K6 []=.list 1 []:=rfl;rw[e]at h;simp[Ty.M5,Ty.ag,h,Ty.vars]
variable (l:List Int)
def A9I(hl:l.length<=J9)(n:Int):∃k:Int,C9.p LV [K6 l,iI n]=some (iI k)/\(0<=k↔n∈l):=by
 have hb:=big hl;have loop:∀(m i:Nat),i+m=l.length->∃k:Int,FK C9 (K6 l) (iI n) (iI l.length) (iI i)=some (iI k)/\(0<=k↔n∈l.drop i):=by
  intro m;induction m with
  |zero=>
    intro i hi;have:¬i<l.length:=by omega
    rw[Ij];exact⟨-1,by simp[this],by simp[z7q (show l.length<=i by omega)]⟩
  |succ m ihm=>
    intro i hi;have h:i<l.length:=by omega
    rw[Ij,z2q h];by_cases e:n=l[i]
    ·exact⟨i,by simp[h,Bg h,e],⟨λ_=>by rw[e];exact zIq ..,λ_=>by omega⟩⟩
    ·obtain⟨k,h1,h2⟩:=ihm (i+1) (by omega);push_cast at h1;refine⟨k,by simp[h,Bg h,e,O8 (show i<9223372036854775807 by omega),h1],?_⟩;rw[h2,zSq];simp[e]
 obtain⟨k,h1,h2⟩:=loop l.length 0 (by omega);refine⟨k,(QW _ _).trans ?_,by simpa using h2⟩;rw[RF];simpa using h1
def bz(hl:l.length<=J9)(n:Int):C9.p FJ [K6 l,iI n]=some (.bool (decide (n∈l))):=by refine(NV _ _).trans ?_;rw[Nv];obtain⟨k,h1,h2⟩:=A9I l hl n;simp[h1,h2]
variable (l:List (Int×Ty))
def A4d:Prop :=
 ∀v,match AQ es (iI v)with
   |none=>∀e∈l,e.1≠v
   |some d=>∃(i:Nat)(h:i<l.length),d=.int .i64 i/\l[i].1=v/\∀j (hj:j<i),(l[j]'(by omega)).1≠v
theorem A4d.look{es:List (DV×DV)}{l:List (Int×Ty)}(h:A4d es l)(v:Int):(AQ es (iI v)=none/\look l v=none)\/∃(i:Nat)(hi:i<l.length),AQ es (iI v)=some (iI i)/\look l v=some l[i].2:=by
 have:=h v;cases hm:AQ es (iI v)with
 |none=>
   rw[hm]at this;left;refine⟨rfl,?_⟩;unfold Su.look;rw[List.find?_eq_none.2]
   ·rfl
   ·intro e he;simpa using this e he
 |some d=>
   rw[hm]at this;obtain⟨i,hi,rfl,h1,h2⟩:=this;right;refine⟨i,hi,rfl,?_⟩;unfold Su.look;have:l.find? (λe=>decide (e.1=v))=some l[i]:=by rw[List.find?_eq_some_iff_getElem];refine⟨by simpa using h1,i,hi,rfl,λj hj=>?_⟩;simpa using h2 j hj
   rw[this];rfl
@[simp] theorem C9e(e:Int×Ty):A7 0 (Y1 e)=.int .i64 e.1:=rfl
@[simp] theorem C9f(e:Int×Ty):A7 1 (Y1 e)=.int .i64 e.2.A8:=rfl
@[simp] theorem C9g(e:Int×Ty):A7 2 (Y1 e)=.int .i64 e.2.n:=rfl
@[simp] theorem C9h(e:Int×Ty):A7 3 (Y1 e)=.list 3 (e.2.D6.map Ty.A9):=rfl
@[simp] theorem C7v(e:Int×Ty):E5 4 (Y1 e)=true:=rfl
def B2K(es:List (DV×DV))(hf:A4d es l)(i:Nat)(sg:List H7)(hm:X0 sg i=some (false,es))(t:Ty):t.right=true->
 C9.r Wd [(t.A9,.val),(P7 l,.val),(.undef,.map i)] sg=some ([(t.put l).A9],sg):=by
 induction t using Ty.ind with
 |h t ih=>
   intro ht;have hb:=t.Cx (Ty.R5 ht);refine(uw _ _ _ _).trans ?_;rw[A0b,Ty.put_eq];by_cases h6:t.A8=6
   ·have e6:DV.agg [iI 6,iI t.n,.list 3 (t.D6.map Ty.A9)]=t.A9:=by rw[<- h6];exact Ty.M5 t
    rcases hf.look t.n with⟨h1,h2⟩ | ⟨j,hj,h1,h2⟩
    ·simp[h6,hm,h1,h2,e6]
    ·have e1:F7 4 (P7 l) (iI (j:Int))=some (Y1 l[j]):=J3 hj;simp[h6,hm,h1,h2,e1,Ty.M5,Ty.ag]
   ·have loop:=HZ (l:=t.D6) (P:=λj (a:List Ty)=>OM C9 (P7 l) i (.list 3 (t.D6.map Ty.A9)) (iI t.D6.length) (iI j) (iI t.A8) (.list 3 (a.map Ty.A9)) sg)
     (g:=λa k=>a++[k.put l]) (fin:=λa=>some ([(Ty.mk t.A8 0 a).A9],sg)) (I:=λj a=>a.length=j)
     (λa _=>by rw[Tn];simp[Ty.K9])
     (λj h a ha=>by refine⟨?_,by simp[ha]⟩;rw[Tn];have:=Cs (e:=Ty.A9) (sz:=3) (l:=a) (x:=t.D6[j].put l) (by unfold J9;omega);simp[h,J3 h,Ty.M5,Ty.ag,ih _ (z0q h) (Ty.M8 ht (z0q h)),this,O8 (show j<9223372036854775807 by omega)]) [] rfl
    have e:∀(m:List Ty)(a:List Ty),m.foldl (λa k=>a++[k.put l]) a=a++m.map (Ty.put l):=by
     intro m;induction m with
     |nil=>intro a;simp
     |cons x m ih=>intro a;simp[ih]
    rw[e]at loop;have hn:t.n=0:=by have:=(Ty.CS.1 ht).2.2.2.1;omega
    by_cases h0:t.D6.length=0
    ·have hk:t.D6=[]:=zkq h0;simp only[C8 h6,hk,zfq,Ty.K9 (Ty.mk t.A8 t.n [])];simp[h6,hk]
     try (rw[Ty.K9 t,hk];rfl)
    ·have bM:¬((t.D6.length:Int)=0):=by omega
     simp only[zfq,znq]at loop;have C1z:¬t.D6=[]:=λh=>h0 (by rw[h];rfl);simp[h6,bM,C1z,hn,loop]
def qE(ht:t.thin=true)(hl:l.length<=J9)(P8:∀e∈l,e.2.thin=true):
 C9.p SB [t.A9,P7 l]=some (if t.right=true/\Ae l=true then .I4 [(t.put l).A9,iI 0]else .I4 [O5.A9,iI 1]):=by
 have hb:=big hl;have z:O5.A9=.agg (Bz []):=by rw[Ty.K9];rfl
 refine(kY _ _).trans ?_;rw[oJ];by_cases hr:t.right=true
 ·have loop:∀(m i:Nat)(es:List (DV×DV)),i+m=l.length->A4d es (l.take i)->(l.take i).all (λe=>decide (0<=e.1)&&decide (e.1<=1048576)&&e.2.right)=true->
   Ja C9 (P7 l) (P7 l) (iI l.length) (iI i) t.A9 [.map false es]=some (if Ae l=true then .I4 [(t.put l).A9,iI 0]else .I4 [O5.A9,iI 1]):=by
   intro m;induction m with
   |zero=>
     intro i es hi hf ha;rw[z8q (by omega)]at hf ha;have:¬i<l.length:=by omega
     rw[RD];have hp:=B2K l es hf 0 [.map false es] rfl t hr;have vN:Ae l=true:=ha;simp[this,Ty.M5,Ty.ag,hp,vN]
   |succ m ihm=>
     intro i es hi hf ha;have h:i<l.length:=by omega
     have RL:l[i]∈l:=z0q h;have vN:¬(0<=l[i].1/\l[i].1<=1048576/\l[i].2.right=true)->Ae l=false:=by intro hh;rw[zXq];intro h';exact hh (S_.1 h' _ RL)
     rw[RD];have e1:F7 4 (P7 l) (iI (i:Int))=some (Y1 l[i]):=J3 h;by_cases h1:l[i].1<0
     ·simp[h,e1,h1,vN (by omega),z]
     by_cases h2:1048576<l[i].1
     ·simp[h,e1,h1,h2,vN (by omega),z]
     cases h3:l[i].2.right
     ·simp[h,e1,h1,h2,Ty.M5,Ty.ag,DI _ (P8 _ RL),h3,vN (by simp[h3]),z]
     have hm:X0 [H7.map false es] 0=some (false,es):=rfl;have ZT:(l.take (i+1)).all (λe=>decide (0<=e.1)&&decide (e.1<=1048576)&&e.2.right)=true:=by
      rw[z6q h,List.all_append,ha];have h1':0<=l[i].1:=by omega
      have WI:l[i].1<=1048576:=by omega
      simp[h1',WI,h3]
     have Bl:(l.take i).length=i:=by simp;omega
     cases hg:AQ es (iI l[i].1)with
     |none=>
       have nx:=ihm (i+1) (BJ es (iI l[i].1) (iI i)) (by omega) (by
        intro v;rw[B1q];by_cases e:l[i].1=v
        ·rw[D5 e];refine⟨i,by simp;omega,rfl,by simpa using e,λj hj=>?_⟩;have:=hf l[i].1;rw[hg]at this;have:=this l[j] (zDq.2 ⟨j,by omega,rfl⟩);simpa[e]using this
        ·rw[C8 e];have:=hf v;cases hv:AQ es (iI v)with
         |none=>
           rw[hv]at this;intro x hx;rw[z6q h,zzq,zJq]at hx;rcases hx with hx | rfl
           ·exact this x hx
           ·exact e
         |some d=>rw[hv]at this;obtain⟨k,hk,a,b,c⟩:=this;rw[Bl]at hk;refine⟨k,by simp;omega,a,by simpa using b,λj hj=>by simpa using c j hj⟩) ZT
       push_cast at nx;simp[h,e1,h1,h2,Ty.M5,Ty.ag,DI _ (P8 _ RL),h3,hm,hg,O8 (show i<9223372036854775807 by omega),nx]
     |some d=>
       have nx:=ihm (i+1) es (by omega) (by
        intro v;have:=hf v;cases hv:AQ es (iI v)with
        |none=>
          rw[hv]at this;intro x hx;rw[z6q h,zzq,zJq]at hx;rcases hx with hx | rfl
          ·exact this x hx
          ·intro e;rw[e,hv]at hg;cases hg
        |some d=>rw[hv]at this;obtain⟨k,hk,a,b,c⟩:=this;rw[Bl]at hk;refine⟨k,by simp;omega,a,by simpa using b,λj hj=>by simpa using c j hj⟩) ZT
       push_cast at nx;simp[h,e1,h1,h2,Ty.M5,Ty.ag,DI _ (P8 _ RL),h3,hm,hg,O8 (show i<9223372036854775807 by omega),nx]
  have l0:=loop l.length 0 [] (by omega) (λv=>by simp[AQ]) (by simp);simp only[zjq,zlq,zbq]at l0;have dl:L6 (P7 l)=some (iI l.length):=by simp[P7]
  simp[Ty.M5,Ty.ag,DI t ht,hr,dl,l0]
 ·simp[Ty.M5,Ty.ag,DI t ht,hr,z]
def C1V{β X:Type}{l:List α}{m:List β}(hl:l.length=m.length){P:Int->Option X}{f : α -> β->Bool}{y n:X}(stop:P l.length=some y)(step:∀(i:Nat)(h:i<l.length),P i=if f l[i] (m[i]'(by omega))=true then P ((i:Int)+1)else some n):P 0=some (if ((l.zip m).all λp=>f p.1 p.2)=true then y else n):=by
 refine Kt (l:=l.zip m) (f:=λp=>f p.1 p.2) (by rw[zAq,<- hl,Nat.min_self];exact stop) λi h=>?_;have h':i<l.length:=by rw[zAq]at h;omega
 rw[step i h'];simp
def Bv{a b:Ty}(ha:a.right=true)(hb:b.right=true)(h:a.A8=b.A8):a.D6.length=b.D6.length:=by have h1:=(Ty.CS.1 ha).1;have h2:=(Ty.CS.1 hb).1;rw[h]at h1;omega
theorem A9D:a.right=true->∀b:Ty,b.right=true->C9.p Ry [a.A9,b.A9]=some (.bool (a.agrees b)):=by
 induction a using Ty.ind with
 |h a ih=>
   intro ha b hb;have hn:=a.Cx (Ty.R5 ha);refine(A6Z _ _).trans ?_;rw[A8v,Ty.aj];simp[Ty.M5,Ty.ag,A1g _ (Ty.R5 ha),A1g _ (Ty.R5 hb)];by_cases h1:a.A8=5<;>simp[h1];by_cases h2:b.A8=5<;>simp[h2];by_cases h3:a.A8=b.A8<;>simp[h3];by_cases h4:a.n=b.n<;>simp[h4];have h5:=Bv ha hb h3;have loop:=C1V (l:=a.D6) (m:=b.D6) h5 (P:=λi=>Mi C9 (.list 3 (a.D6.map Ty.A9)) (iI a.D6.length) (iI i) b.A9) (f:=Ty.agrees) (y:=.bool true) (n:=.bool false)
    (by rw[bG];simp)
    (λi h=>by
      have h':i<b.D6.length:=by omega
      rw[bG];simp[h,h',J3 h,J3 h',Ty.M5,Ty.ag,ih _ (z0q h) (Ty.M8 ha (z0q h)) _ (Ty.M8 hb (z0q h')),O8 (show i<9223372036854775807 by omega)];cases(a.D6[i].agrees b.D6[i])<;>rfl)
   rw[loop];cases((a.D6.zip b.D6).all λp=>p.1.agrees p.2)<;>rfl
def B0s(b:Ty)(ha:a.thin=true)(hb:b.thin=true):C9.p cu [a.A9,b.A9]=some (.bool (a.right&&b.right&&a.agrees b)):=by
 refine(A8M _ _).trans ?_;rw[A90];simp[Ty.M5,Ty.ag,DI _ ha,DI _ hb];cases h1:a.right
 ·simp
 ·cases h2:b.right
  ·simp
  ·simp[A9D a h1 b h2]
def A3Z:C9.p qO [iI k]=some (iI (A4w k)):=by refine(B2k _).trans ?_;rw[B3E];simp[A4w];by_cases h3:k=3<;>by_cases h4:k=4<;>by_cases h5:k=5<;>by_cases h6:k=6<;>by_cases h8:k=8<;>simp_all
def A1o(R:U1)(p:E8)(t:Ty)(sg:List H7)(out:List (ByteArray×Ty)):Option (List (ByteArray×Ty))->Prop
 |some b=>R.r Tw [(p.A9,.val),(t.A9,.val),(CF out,.own)] sg=some ([CF (out++b),.bool true],sg)
 |none=>∃d,R.r Tw [(p.A9,.val),(t.A9,.val),(CF out,.own)] sg=some ([d,.bool false],sg)
def B40:p.pat=true->∀(t:Ty)(sg:List H7)(out:List (ByteArray×Ty)),t.right=true->out.length+p.size<=J9->A1o C9 p t sg out (p.binds t):=by
 induction p using E8.ind with
 |h p ih=>
   intro hp t sg out ht hl;have hkl:=E8.ZX (E8.C37 hp);have Ak:=E8.size_eq p;have loop:∀(ts:List Ty),ts.length=p.D6.length->(∀u∈ts,u.right=true)->∀(n j:Nat)(out:List (ByteArray×Ty)),j+n=p.D6.length->out.length+((p.D6.drop j).map E8.size).sum<=J9->
    match Ii ((p.D6.drop j).map E8.binds) (ts.drop j)with
    |some b=>Lr C9 (CF out) (.list 3 (ts.map Ty.A9)) (.list 7 (p.D6.map E8.A9)) (iI p.D6.length) (iI j) sg=some ([CF (out++b),.bool true],sg)
    |none=>∃d,Lr C9 (CF out) (.list 3 (ts.map Ty.A9)) (.list 7 (p.D6.map E8.A9)) (iI p.D6.length) (iI j) sg=some ([d,.bool false],sg):=by
    intro ts hts htr n;induction n with
    |zero=>
      intro j out hj hl;have:¬j<p.D6.length:=by omega
      rw[z7q (show p.D6.length<=j by omega)];simp only[zfq,Ii];rw[OX];simp[this]
    |succ n ihn=>
      intro j out hj hl;have h:j<p.D6.length:=by omega
      have h':j<ts.length:=by omega
      have hb:p.D6.length<4294967297:=by rw[hkl];split<;>omega
      rw[z2q h]at hl ⊢;rw[z2q h'];simp only[z9q,zvq,Ii]at hl ⊢;have k1:=ih _ (z0q h) (E8.C36 hp (z0q h)) ts[j] sg out (htr _ (z0q h')) (by omega);cases KF:p.D6[j].binds ts[j]with
      |none=>rw[KF]at k1;obtain⟨d,k1⟩:=k1;simp only[yjq];refine⟨.list 4 [],?_⟩;rw[OX];simp[h,J3 h,J3 h',E8.M5,E8.ag,Ty.M5,Ty.ag,k1]
      |some b1=>
        rw[KF]at k1;have C9C:=E8.ak _ _ _ KF;simp only[A1o]at k1;have k2:=ihn (j+1) (out++b1) (by omega) (by rw[zHq];omega);simp only[ykq];cases hc:Ii ((p.D6.drop (j+1)).map E8.binds) (ts.drop (j+1))with
        |none=>rw[hc]at k2;obtain⟨d,k2⟩:=k2;simp only[yjq];refine⟨d,?_⟩;rw[OX];push_cast at k2;simp[h,J3 h,J3 h',E8.M5,E8.ag,Ty.M5,Ty.ag,k1,O8 (show j<9223372036854775807 by omega),k2]
        |some b2=>rw[hc]at k2;simp only[ykq];rw[OX];push_cast at k2;simp only[zxq]at k2;simp[h,J3 h,J3 h',E8.M5,E8.ag,Ty.M5,Ty.ag,k1,O8 (show j<9223372036854775807 by omega),k2]
   have fin:∀(ts:List Ty),ts.length=p.D6.length->(∀u∈ts,u.right=true)->match Ii (p.D6.map E8.binds) ts with
    |some b=>NH C9 (CF out) (.list 3 (ts.map Ty.A9)) p.A9 sg=some ([CF (out++b),.bool true],sg)
    |none=>∃d,NH C9 (CF out) (.list 3 (ts.map Ty.A9)) p.A9 sg=some ([d,.bool false],sg):=by
    intro ts hts htr;have:=loop ts hts htr p.D6.length 0 out (by omega) (by simp;omega);simp only[ziq]at this;rw[A8y];simp only[E8.MO,N8,z3q,F8];exact this
   rw[E8.jZ];unfold Za;by_cases k1:p.A8=1
   ·simp only[D5 k1,A1o]
    refine(EL _ _ _ _).trans ?_;rw[E_];simp[k1]
   rw[C8 k1];by_cases k2:p.A8=2
   ·simp only[D5 k2,A1o]
    refine(EL _ _ _ _).trans ?_;rw[E_];have:=Cs (e:=XH) (sz:=4) (l:=out) (x:=(p.name,t)) (by omega);simp[k1,k2];show ob (AP 4 (CF out) (.list 4 [XH (p.name,t)])) _=_;rw[show CF out=.list 4 (out.map XH)from rfl,this];rfl
   rw[C8 k2];by_cases k7:p.A8=7
   ·rw[D5 k7];by_cases t7:t.A8=7
    ·rw[D5 t7];obtain⟨a,b,hk⟩:=A37 ht (.inl t7);have:=fin t.D6 (by rw[hk,hkl];simp[k7]) (λu hu=>Ty.M8 ht hu);cases hc:Ii (p.D6.map E8.binds) t.D6 with
     |none=>rw[hc]at this;obtain⟨d,this⟩:=this;refine⟨d,(EL _ _ _ _).trans ?_⟩;rw[E_];simp[k1,k2,k7,t7,this]
     |some b=>rw[hc]at this;refine(EL _ _ _ _).trans ?_;rw[E_];simp[k1,k2,k7,t7,this]
    ·rw[C8 t7];refine⟨.list 4 [],(EL _ _ _ _).trans ?_⟩;rw[E_];simp[k1,k2,k7,t7]
   rw[C8 k7];by_cases k9:p.A8=9
   ·rw[D5 k9];by_cases t7:t.A8=8
    ·rw[D5 t7];obtain⟨a,hk⟩:=yx ht t7;have e0:F7 3 (.list 3 (t.D6.map Ty.A9)) (iI 0)=some a.A9:=by rw[hk];simp[F7]
     have ea:t.D6.getD 0 O5=a:=by rw[hk];rfl
     have:=fin [a,t] (by rw[hkl];simp[k9]) (λu hu=>by
      simp at hu;rcases hu with rfl | rfl
      ·exact Ty.M8 ht (by rw[hk];exact zIq ..)
      ·exact ht)
     rw[ea];cases hc:Ii (p.D6.map E8.binds) [a,t]with
     |none=>
       rw[hc]at this;obtain⟨d,this⟩:=this;refine⟨d,(EL _ _ _ _).trans ?_⟩;rw[E_];have e9:DV.agg [iI 8,iI t.n,.list 3 (t.D6.map Ty.A9)]=t.A9:=by rw[<- t7];exact Ty.M5 t
       simp[k1,k2,k7,k9,t7,e0,Ty.M5,Ty.ag,e9];simpa using this
     |some b=>
       rw[hc]at this;refine(EL _ _ _ _).trans ?_;rw[E_];have e9:DV.agg [iI 8,iI t.n,.list 3 (t.D6.map Ty.A9)]=t.A9:=by rw[<- t7];exact Ty.M5 t
       simp[k1,k2,k7,k9,t7,e0,Ty.M5,Ty.ag,e9];simpa using this
    ·rw[C8 t7];refine⟨.list 4 [],(EL _ _ _ _).trans ?_⟩;rw[E_];simp[k1,k2,k7,k9,t7]
   rw[C8 k9];by_cases B20:t.A8=A4w p.A8
   ·rw[D5 B20];refine(EL _ _ _ _).trans ?_;rw[E_];simp[k1,k2,k7,k9,A3Z,B20]
   ·rw[C8 B20];refine⟨CF out,(EL _ _ _ _).trans ?_⟩;rw[E_];simp[k1,k2,k7,k9,A3Z,B20]
def B4Z(hf:p.fit)(hp:p.right=true)(ht:t.right=true):
 C9.p qN [p.A9,t.A9]=some (match p.binds t with
   |some b=>.I4 [CF b,iI 0]
   |none=>.I4 [CF [],iI 4]):=by
 refine(B2j _ _).trans ?_;rw[B3D];have:=B40 p (E8.C0i hp) t [] [] ht (by simpa using hf.size);have e0:(DV.list 4 [])=CF []:=rfl;rw[e0];cases hb:p.binds t with
 |none=>rw[hb]at this;obtain⟨d,this⟩:=this;simp[E8.M5,E8.ag,Ty.M5,Ty.ag,Vq p (E8.ZL hf) hf.txt,hp,DI t (Ty.R5 ht),ht,this]
 |some b=>rw[hb]at this;simp only[A1o]at this;simp[E8.M5,E8.ag,Ty.M5,Ty.ag,Vq p (E8.ZL hf) hf.txt,hp,DI t (Ty.R5 ht),ht,this]
theorem iU:O5.A9=.agg (Bz []):=by rw[Ty.K9];rfl
variable (n:Int)
def Ty.B96(ks:List Ty):DV.agg [iI k,iI n,.list 3 (ks.map Ty.A9)]=(Ty.mk k n ks).A9:=(Ty.K9 (.mk k n ks)).symm
def Ty.B6V:DV.agg [iI k,iI n,.list 3 []]=(Ty.mk k n []).A9:=(Ty.K9 (.mk k n [])).symm
def Ty.C3V(a:Ty):DV.agg [iI k,iI n,.list 3 [a.A9]]=(Ty.mk k n [a]).A9:=(Ty.K9 (.mk k n [a])).symm
def Ty.B6W(a b:Ty):DV.agg [iI k,iI n,.list 3 [a.A9,b.A9]]=(Ty.mk k n [a,b]).A9:=(Ty.K9 (.mk k n [a,b])).symm
def A3V(b:Ty):C9.p Zn [a.A9,b.A9]=some (Ty.mk 9 0 [a,b]).A9:=by refine(B2g _ _).trans ?_;rw[B3A];simp[Ty.M5,Ty.ag,Ty.B6W]
variable (n:ByteArray)
theorem Nm.agg(t:Ty)(vs:List Int):DV.agg [.str n,iI t.A8,iI t.n,.list 3 (t.D6.map Ty.A9),K6 vs]=Nm.A9 ⟨n,t,vs⟩:=rfl
theorem Nm.B7n(t:Ty):DV.agg [.str n,iI t.A8,iI t.n,.list 3 (t.D6.map Ty.A9),.list 1 []]=Nm.A9 ⟨n,t,[]⟩:=rfl
def B5z{e : α->DV}{sz:Nat}(l:List α):Yq sz (.list sz (l.map e)) none (iI l.length) (iI l.length)=some (.list sz (l.map e)):=by simp[Yq,Cz,bnd];exact z8q (by simp)
theorem PV(l m:List Nm)(sg:List H7)(h:l.length+m.length<=J9):C9.r KX [(Y6 l,.val),(.list 5 (m.map Nm.A9),.val)] sg=some ([Y6 (l++m)],sg):=by refine(A99 _ _ _).trans ?_;rw[B2c];simp only[A5w,F8];rw[show Y6 l=.list 5 (l.map Nm.A9)from rfl,B5z];simp only[F8];rw[B04 h];rfl
variable (i:Nat)(S:List Int)
theorem Rn(es:List (DV×DV))(hs:Z0 es S)(sg:List H7)(hm:X0 sg i=some (false,es))(ts:List Ty)(hl:ts.length<=J9)(ht:∀t∈ts,t.thin=true/\t.CL<=J9):
 C9.r EZ [(.undef,.map i),(.list 3 (ts.map Ty.A9),.val)] sg=some ([.bool (ts.all (GD S))],sg):=by
 have hb:=big hl;refine(A1k _ _ _).trans ?_;have loop:=Kt (l:=ts) (f:=GD S) (P:=λj=>GV C9 i (.list 3 (ts.map Ty.A9)) (iI ts.length) (iI j) sg) (y:=([DV.bool true],sg)) (n:=([DV.bool false],sg))
  (by rw[WC];simp)
  (λj h=>by
    obtain⟨hth,Ak⟩:=ht _ (z0q h);have pK:ts[j].vars.length<=J9+1:=by have:=Ty.A6M ts[j] [];simp at this;unfold Ty.vars;omega
    have hvb:ts[j].vars.length<4294967299:=by unfold J9 at pK;omega
    have K4:=B90 (l:=ts[j].vars) (f:=λv=>decide (v∈S)) (P:=λk=>Ji C9 i (.list 3 (ts.map Ty.A9)) (iI ts.length) (iI j) (K6 ts[j].vars) (iI ts[j].vars.length) (iI k) sg)
     (y:=GV C9 i (.list 3 (ts.map Ty.A9)) (iI ts.length) (iI ((j:Int)+1)) sg) (n:=some ([DV.bool false],sg))
     (by rw[WE];simp[O8 (show j<9223372036854775807 by omega)])
     (λk hk=>by
       rw[WE];have hc:=hs ts[j].vars[k];by_cases hv:ts[j].vars[k]∈S
       ·simp only[hv,H5]at hc;simp[hk,Bg hk,hm,hc,hv,O8 (show k<9223372036854775807 by omega)]
       ·simp only[hv,F9]at hc;simp[hk,Bg hk,hm,hc,hv])
    rw[WC];simp[h,J3 h,Ty.M5,Ty.ag,B6q _ hth Ak,K4,GD])
 rw[A2e];simp only[N8,z3q,F8,loop];cases ts.all (GD S)<;>rfl
def wG(es:List (DV×DV))(hs:Z0 es S)(sg:List H7)(hm:X0 sg i=some (false,es))(l:List Int)(hl:l.length<=J9):
 C9.r K_ [(.undef,.map i),(K6 l,.val)] sg=some ([.bool (takes S l)],sg):=by
 have hb:=big hl;refine(ui _ _ _).trans ?_;have loop:∀(m k:Nat),k+m=l.length->IW C9 i (K6 l) (K6 l) (iI l.length) (iI k) sg=some ([.bool (decide (∀j (h:j<l.length),k<=j->l[j]∉S/\l[j]∉l.take j))],sg):=by
  intro m;induction m with
  |zero=>
    intro k hk;rw[TR];have:¬k<l.length:=by omega
    have h2:∀j (h:j<l.length),k<=j->l[j]∉S/\l[j]∉l.take j:=λj h h'=>by omega
    simp[this];exact h2
  |succ m ih=>
    intro k hk;have h:k<l.length:=by omega
    have nx:=ih (k+1) (by omega);push_cast at nx;have hc:=hs l[k];have sl:Cz 1 (K6 l) none (some (iI (k:Int)))=some (K6 (l.take k)):=xA (by omega) 1;have ct:=bz (l.take k) (by simp;omega) l[k];rw[TR];by_cases hv:l[k]∈S
    ·simp only[hv,H5]at hc;have:¬∀j (h:j<l.length),k<=j->l[j]∉S/\l[j]∉l.take j:=λhh=>(hh k h (zeq _)).1 hv;simp only[this,R4];simp[h,Bg h,hm,hc]
    ·simp only[hv,F9]at hc;by_cases hd:l[k]∈l.take k
     ·have:¬∀j (h:j<l.length),k<=j->l[j]∉S/\l[j]∉l.take j:=λhh=>(hh k h (zeq _)).2 hd;simp only[this,R4];simp only[hd,L8]at ct;simp[h,Bg h,hm,hc,sl,ct]
     ·simp only[hd,R4]at ct;have e:(∀j (h:j<l.length),k<=j->l[j]∉S/\l[j]∉l.take j)↔∀j (h:j<l.length),k+1<=j->l[j]∉S/\l[j]∉l.take j:=by
       constructor
       ·intro hh j hj hkj;exact hh j hj (by omega)
       ·intro hh j hj hkj;rcases ydq k j with h1 | h1
        ·exact hh j hj h1
        ·have:k=j:=by omega
         subst this;exact⟨hv,hd⟩
      simp only[e];rw[<- nx];simp[h,Bg h,hm,hc,sl,ct,O8 (show k<9223372036854775807 by omega)]
 have l0:=loop l.length 0 (by omega);simp only[zjq,zlq,zbq]at l0;rw[xK];simp only[Gx,F8,l0]
 congr 4;rw[zyq,F5,qH,<- A9e];constructor
 ·intro hh;refine⟨λj hj=>(hh j hj (zMq _)).2,λv hv=>?_⟩;obtain⟨j,hj,rfl⟩:=List.getElem_of_mem hv;exact(hh j hj (zMq _)).1
 ·rintro⟨h1,h2⟩ j hj -;exact⟨h2 _ (z0q hj),h1 j hj⟩
variable (n:Int)
def TF(hn:n=1\/n=-1)(sg:List H7)(l:List Int)(hl:l.length<=J9):∀(es:List (DV×DV))(c:Int->Int),X0 sg i=some (false,es)->GQ es c->(∀v,-1<=c v/\c v<=1)->
 ∃es',C9.r Ep [(.undef,.map i),(K6 l,.val),(iI n,.val)] sg=some ([],sg.set i (.map false es'))/\GQ es' λv=>c v+n * (l.count v:Int):=by
 intro es c hm hc hb;have vO:=big hl;have hi:=yL hm;have loop:∀(m k:Nat)(es:List (DV×DV))(c:Int->Int),k+m=l.length->GQ es c->(∀v,-4611686018427387904+(m:Int)<=c v/\c v<=4611686018427387904-(m:Int))->
  ∃es',IV C9 i (iI n) (K6 l) (iI l.length) (iI k) (sg.set i (.map false es))=some ([],sg.set i (.map false es'))/\GQ es' λv=>c v+n * ((l.drop k).count v:Int):=by
  intro m;induction m with
  |zero=>
    intro k es c hk hc hb;rw[TM,z7q (by omega)];have:¬k<l.length:=by omega
    exact⟨es,by simp[this],by simpa using hc⟩
  |succ m ih=>
    intro k es c hk hc hb;have h:k<l.length:=by omega
    have hcv:=hc l[k];have hbv:=hb l[k];obtain⟨es',h1,h2⟩:=ih (k+1) (BJ es (iI l[k]) (iI (c l[k]+n))) _ (by omega) (hc.set l[k] (c l[k]+n)) (λv=>by
     have:=hb v;by_cases e:l[k]=v
     ·simp only[e,H5];rw[e]at hbv;rcases hn with rfl | rfl<;>omega
     ·simp only[e,F9];omega)
    refine⟨es',?_,h2.congr λv=>?_⟩
    ·rw[TM];have Ik:D7 .add (iI (c l[k])) (iI n)=some (iI (c l[k]+n)):=by refine GJ ?_ ?_<;>(rcases hn with rfl | rfl<;>omega)
     push_cast at h1;simp[h,Bg h,Iu hi,hcv,Ik,O8 (show k<9223372036854775807 by omega),h1]
    ·rw[z2q h,List.count_cons];by_cases e:l[k]=v
     ·simp only[e,H5,beq_self_eq_true];rcases hn with rfl | rfl<;>(push_cast;omega)
     ·simp[e]
 obtain⟨es',h1,h2⟩:=loop l.length 0 es c (by omega) hc (λv=>by have:=hb v;omega);rw[A7j hm]at h1;refine⟨es',(ug _ _ _ _).trans ?_,by simpa using h2⟩;rw[xG];simp only[Gx,F8];exact h1
variable (t:Tm)
def i_:Prop:=t.right=true->t.fit->∀(i:Nat)(l:List Nm)(S:List Int)(sg:List H7)(es:List (DV×DV)),X0 sg i=some (false,es)->Z0 es S->EQ l->l.length+t.wide<=J9->∃es',C9.r Y8 [(.undef,.map i),(t.A9,.val),(Y6 l,.val)] sg=some (V4 (ck t l S),sg.set i (.map false es'))/\Z0 es' S
variable (vs:List Int)(ts:List Ty)
theorem B16(k:Nat)(h1:k<vs.length)(h2:k<ts.length):(vs.take (k+1)).zip (ts.take (k+1))=(vs.take k).zip (ts.take k)++[(vs[k],ts[k])]:=by rw[z6q h1,z6q h2,List.zip_append (by simp;omega)];rfl
theorem B2v(hk:t.A8=1)(ht:t.right=true)(hf:t.fit)(i:Nat)(l:List Nm)(S:List Int)(sg:List H7)(es:List (DV×DV))(hm:X0 sg i=some (false,es))(hs:Z0 es S)(hl:EQ l)(hll:l.length<=J9):
 C9.r Li [(.undef,.map i),(t.A9,.val),(Y6 l,.val)] sg=some (V4 (ck t l S),sg):=by
 have own:=Tm.EH ht;have hb:=big hll;refine(xU _ _ _ _).trans ?_;rw[B6D hk];have loop:∀(m:Nat),m<=l.length->JC C9 i (Y6 l) (iI ((m:Int)-1)) t.A9 sg=some (V4 (match (l.take m).reverse.find? λx=>decide (x.name=t.name)with
  |none=>.error 6
  |some x=>if x.vars.length=t.args.length then if t.args.all (GD S)=true then .ok (x.ty.put (x.vars.zip t.args))else .error 6 else .error 8),sg):=by
  intro m;induction m with
  |zero=>intro _;rw[UG];simp[V4,iU]
  |succ m ih=>
    intro Io;have h:m<l.length:=by omega
    have nx:=ih (by omega);rw[z6q h,List.reverse_append];simp only[List.reverse_singleton,zOq,y2q];rw[UG];have e1:((m+1:Nat):Int)-1=(m:Int):=by omega
    have e2:F7 5 (Y6 l) (iI (m:Int))=some l[m].A9:=J3 h;have e3:D7 .sub (iI (m:Int)) (iI 1)=some (iI ((m:Int)-1)):=by rw[FX,X7 (by omega) (by omega)]
    rw[e1];by_cases hn:l[m].name=t.name
    ·have hx:=hl _ (z0q h);obtain⟨x1,x2,x3⟩:=hx;have hbx:=big x2;simp only[hn,L8]
     by_cases hv:l[m].vars.length=t.args.length
     ·have has:=Rn i S es hs sg hm t.args (z5q hf.one.args) λy hy=>⟨hf.one.A9S y hy,hf.one.C6Z y hy⟩;by_cases ha:t.args.all (GD S)=true
      ·have lp:=HZ (l:=l[m].vars) (P:=λk (a:List (Int×Ty))=>DT C9 (P7 a) (K6 l[m].vars) (iI l[m].vars.length) (iI k) t.A9 l[m].A9 sg)
        (g:=λa v=>a++[(v,t.args.getD a.length O5)]) (fin:=λa=>DT C9 (P7 a) (K6 l[m].vars) (iI l[m].vars.length) (iI l[m].vars.length) t.A9 l[m].A9 sg)
        (I:=λk a=>a=(l[m].vars.take k).zip (t.args.take k)) (λa _=>rfl)
        (λk h' a ha=>by
          have CR:k<t.args.length:=by omega
          have hal:a.length=k:=by rw[ha];simp;omega
          have hga:t.args.getD a.length O5=t.args[k]:=by rw[hal,zdq,z4q CR];rfl
          refine⟨?_,by rw[B16 _ _ _ h' CR,hga,<- ha]⟩;rw[hga,TP];have hap:=Cs (e:=Y1) (sz:=4) (l:=a) (x:=(l[m].vars[k],t.args[k])) (by omega);have C1B:AP 4 (P7 a) (.list 4 [.agg [iI l[m].vars[k],iI t.args[k].A8,iI t.args[k].n,.list 3 (t.args[k].D6.map Ty.A9)]])=some (P7 (a++[(l[m].vars[k],t.args[k])])):=hap;simp[h',Bg h',J3 CR,C1B,O8 (show k<9223372036854775807 by omega)]) [] rfl
       have B7T:∀(vs:List Int)(a:List (Int×Ty))(k:Nat),a.length=k->k+vs.length=t.args.length->vs.foldl (λa v=>a++[(v,t.args.getD a.length O5)]) a=a++vs.zip (t.args.drop k):=by
        intro vs;induction vs with
        |nil=>intro a k _ _;simp
        |cons v vs ihv=>
          intro a k hak hkl;have CR:k<t.args.length:=by simp at hkl;omega
          rw[zUq,ihv _ (k+1) (by simp[hak]) (by simp at hkl;omega),z2q CR];simp only[hak,zdq,z4q CR,y8q,List.zip_cons_cons,zxq,zOq]
       rw[B7T _ [] 0 rfl (by simpa using hv)]at lp;simp only[znq,ziq]at lp;have Kr:Ae (l[m].vars.zip t.args)=true:=by rw[S_];intro e he;have h1:=x3 _ (y3q he).1;exact⟨h1.1,h1.2,own.args _ (y3q he).2⟩
       have Nc:=qE l[m].ty (l[m].vars.zip t.args) (Ty.R5 x1) (by simp;omega) (λe he=>Ty.R5 (own.args _ (y3q he).2));simp only[x1,Kr,and_self,H5]at Nc;have lp':DT C9 (.list 4 []) (K6 l[m].vars) (iI l[m].vars.length) (iI 0) t.A9 l[m].A9 sg=some ([(l[m].ty.put (l[m].vars.zip t.args)).A9,iI 0],sg):=by refine lp.trans ?_;rw[TP];simp[Ty.M5,Ty.ag,Nc]
       simp only[hv,H5,ha]
       by_cases h0:l[m].vars.length=0
       ·have WJ:l[m].vars=[]:=zkq h0;have ha0:t.args=[]:=zkq (by omega);rw[ha0,WJ,ygq,Ty.B0n];simp only[ha0,zfq,zQq]at has;simp[e2,hn,WJ,ha0,has,V4,Ty.M5,Ty.ag]
       ·have bM:¬((t.args.length:Int)=0):=by omega
        have C1z:¬t.args=[]:=λh=>h0 (by rw[hv,h];rfl);simp only[ha]at has;rw[hv]at lp';simp[e2,hn,hv,has,bM,C1z,lp',V4]
      ·have vN:t.args.all (GD S)=false:=by simpa using ha
       simp only[vN]at has;simp only[hv,H5,vN,z1q,F9];simp[e2,hn,hv,has,V4,iU]
     ·have PN:¬((l[m].vars.length:Int)=(t.args.length:Int)):=by omega
      simp only[C8 hv];simp[e2,hn,PN,V4,iU]
    ·simp only[hn,R4]
     simp[e2,hn,e3,nx]
 have l0:=loop l.length (zeq _);rw[z8q (zeq _)]at l0;rw[A1j];simp only[I8,F4,A5w,F8,FX,X7 (show(-9223372036854775808:Int)<=(l.length:Int)-1 by omega) (by omega),F8,l0]
 try rfl
def Hl.ne{e:Int}(h:Hl e):¬e=0:=by rcases h with rfl | rfl | rfl<;>omega
variable {i:Nat}{sg:List H7}{l:List Nm}{S:List Int}{es:List (DV×DV)}
def i_.at{t:Tm}(h:i_ t)(ht:t.right=true)(hf:t.fit)(hi:i<sg.length)(hs:Z0 es S)(hl:EQ l)(hw:l.length+t.wide<=J9):
 ∃es',C9.r Y8 [(.undef,.map i),(t.A9,.val),(Y6 l,.val)] (sg.set i (.map false es))=some (V4 (ck t l S),sg.set i (.map false es'))/\Z0 es' S:=by
 obtain⟨es',h1,h2⟩:=h ht hf i l S (sg.set i (.map false es)) es (Iu hi _ _) hs hl hw;rw[zNq]at h1;exact⟨es',h1,h2⟩
def Br:DV.agg (Bz [])=O5.A9:=iU.symm
def pO(acc:List Ty):Except Int (List Ty)->List DV
 |.ok ys=>[.list 3 ((acc++ys).map Ty.A9),iI 0]
 |.error e=>[.list 3 [],iI e]
def B2u(ht:t.right=true)(hf:t.fit)(IH:∀k∈t.D6,i_ k)(hi:i<sg.length)(hs:Z0 es S)(hl:EQ l)(hw:l.length+t.wide<=J9):
 ∃es',C9.r Qi [(.undef,.map i),(t.A9,.val),(Y6 l,.val)] (sg.set i (.map false es))=some (pO [] (Aa l S (t.D6.map ck)),sg.set i (.map false es'))/\Z0 es' S:=by
 have hb:=big (z5q hf.one.D6);have hkl:=hf.one.D6;have loop:∀(n j:Nat)(acc:List Ty)(es:List (DV×DV)),j+n=t.D6.length->acc.length=j->Z0 es S->∃es',JB C9 i (Y6 l) (.list 3 (acc.map Ty.A9)) (.list 20 (t.D6.map Tm.A9)) (iI t.D6.length) (iI j) (sg.set i (.map false es)) =
  some (pO acc (Aa l S ((t.D6.drop j).map ck)),sg.set i (.map false es'))/\Z0 es' S:=by
  intro n;induction n with
  |zero=>
    intro j acc es hj ha hs;refine⟨es,?_,hs⟩;have:¬j<t.D6.length:=by omega
    rw[z7q (show t.D6.length<=j by omega),UF];simp[this,Aa,pO]
  |succ n ihn=>
    intro j acc es hj ha hs;have h:j<t.D6.length:=by omega
    have RL:t.D6[j]∈t.D6:=z0q h;have hwk:=Tm.Oq RL;obtain⟨es1,h1,h2⟩:=(IH _ RL).at (Tm.M8 ht RL) (hf.kid RL) hi hs hl (by omega);rw[z2q h,UF];simp only[z9q,Aa];cases hc:ck t.D6[j] l S with
    |error e=>rw[hc]at h1;have he:=(av _ _ _ _ hc).ne;refine⟨es1,?_,h2⟩;simp[h,J3 h,Tm.M5,Tm.ag,h1,V4,he,pO,Except.bind]
    |ok y=>
      rw[hc]at h1;obtain⟨es2,k1,k2⟩:=ihn (j+1) (acc++[y]) es1 (by omega) (by simp[ha]) h2;refine⟨es2,?_,k2⟩;have hap:=Cs (e:=Ty.A9) (sz:=3) (l:=acc) (x:=y) (by omega);push_cast at k1;generalize Aa l S ((t.D6.drop (j+1)).map ck)=r at k1 ⊢;simp[h,J3 h,Tm.M5,Tm.ag,h1,V4,Ty.M5,Ty.ag,hap,O8 (show j<9223372036854775807 by omega)];rw[List.map_append]at k1;simp only[z9q,zfq]at k1;rw[k1];cases r with
      |error e=>simp[pO,Except.bind]
      |ok ys=>simp[pO,Except.bind]
 obtain⟨es',h1,h2⟩:=loop t.D6.length 0 [] es (by omega) rfl hs;refine⟨es',(xS _ _ _ _).trans ?_,h2⟩;rw[A1i];simp only[I8,F4,Tm.CK,N8,z3q,F8];exact h1
def B57(ht:t.right=true)(hf:t.fit)(hk:t.A8=6\/t.A8=8\/t.A8=10\/t.A8=13\/t.A8=15\/t.A8=16)(hm:X0 sg i=some (false,es))(hs:Z0 es S){ys:List Ty}(hl:ys.length=t.D6.length)(hy:∀y∈ys,y.right=true):
 C9.r VL [(.undef,.map i),(t.A9,.val),(.list 3 (ys.map Ty.A9),.val)] sg=some (V4 (Ea t S ys),sg):=by
 have own:=Tm.EH ht;refine(A2K _ _ _ _).trans ?_;rw[A4I];rcases hk with hk | hk | hk | hk | hk | hk
 ·simp[hk,Ea,V4,Ty.B96]
 ·obtain⟨a,b,e⟩:=Tm.YC ht (by omega);rw[e]at hl
  match ys,hl with
  |[x,y],_=>
    have d0:F7 3 (.list 3 [x.A9,y.A9]) (iI 0)=some x.A9:=rfl;have d1:F7 3 (.list 3 [x.A9,y.A9]) (iI 1)=some y.A9:=rfl;have rx:=hy x (by simp);have ry:=hy y (by simp);by_cases h8:y.A8=8
    ·obtain⟨u,hu⟩:=yx ry h8;have ru:=Ty.M8 ry (k:=u) (by rw[hu];simp);have d2:F7 3 (.list 3 [u.A9]) (iI 0)=some u.A9:=rfl;have e8:DV.agg [iI 8,iI y.n,.list 3 [u.A9]]=y.A9:=by rw[Ty.K9 y,h8,hu];rfl
     simp[hk,d0,d1,h8,hu,d2,Ty.M5,Ty.ag,EN u (Ty.R5 ru),Ea,Br,e8];by_cases h:u=x<;>simp[h,V4]
    ·simp[hk,d0,d1,h8,Ea,V4,Br]
 ·obtain⟨a,b,e⟩:=Tm.YC ht (by omega);rw[e]at hl
  match ys,hl with
  |[x,y],_=>
    have d0:F7 3 (.list 3 [x.A9,y.A9]) (iI 0)=some x.A9:=rfl;have d1:F7 3 (.list 3 [x.A9,y.A9]) (iI 1)=some y.A9:=rfl;have rx:=hy x (by simp);have ry:=hy y (by simp);by_cases h8:x.A8=9
    ·obtain⟨u,v,hu⟩:=A37 rx (.inr h8);have ru:=Ty.M8 rx (k:=u) (by rw[hu];simp);have d2:F7 3 (.list 3 [u.A9,v.A9]) (iI 0)=some u.A9:=rfl;have d3:F7 3 (.list 3 [u.A9,v.A9]) (iI 1)=some v.A9:=rfl;simp[hk,d0,d1,h8,hu,d2,d3,Ty.M5,Ty.ag,EN u (Ty.R5 ru),Ea,Br];by_cases h:u=y<;>simp[h,V4]
    ·simp[hk,d0,d1,h8,Ea,V4,Br]
 ·obtain⟨a,b,c,e⟩:=Tm.C20 ht hk;rw[e]at hl
  match ys,hl with
  |[x,y,z],_=>
    have d0:F7 3 (.list 3 [x.A9,y.A9,z.A9]) (iI 0)=some x.A9:=rfl;have d1:F7 3 (.list 3 [x.A9,y.A9,z.A9]) (iI 1)=some y.A9:=rfl;have d2:F7 3 (.list 3 [x.A9,y.A9,z.A9]) (iI 2)=some z.A9:=rfl;have ry:=hy y (by simp);by_cases h8:x.A8=2
    ·simp[hk,d0,d1,d2,h8,Ty.M5,Ty.ag,EN y (Ty.R5 ry),Ea,Br];by_cases h:y=z<;>simp[h,V4]
    ·simp[hk,d0,d1,h8,Ea,V4,Br]
 ·obtain⟨a,b,e⟩:=Tm.YC ht (by omega);rw[e]at hl
  match ys,hl with
  |[x,y],_=>
    have d0:F7 3 (.list 3 [x.A9,y.A9]) (iI 0)=some x.A9:=rfl;have d1:F7 3 (.list 3 [x.A9,y.A9]) (iI 1)=some y.A9:=rfl;have h21:∀(a b:Int),Er C9 (.list 3 [x.A9,y.A9]) (iI a) (iI b) sg=some (if x.A8=a/\y.A8=a then V4 (.ok (.mk b 0 []))else V4 (.error 4),sg):=by
     intro a b;rw[xJ];by_cases h1:x.A8=a<;>by_cases h2:y.A8=a<;>simp[d0,d1,h1,h2,V4,Ty.B6V,Br]
     ·rfl
     ·rfl
     ·rfl
    have e13:LB C9 i (.list 3 [x.A9,y.A9]) (iI 15) t.A9 sg=some (V4 (Ea t S [x,y]),sg):=by
     rw[XL];simp only[Tm.pY,P6,F8,E9,L8,H5,h21];unfold Ea;by_cases o7:t.op=7
     ·simp[hk,o7];split<;>rfl
     ·by_cases o5:t.op=5
      ·simp[hk,o5];split<;>rfl
      ·by_cases o6:t.op=6
       ·simp[hk,o6];split<;>rfl
       ·simp[hk,o5,o6,o7];split<;>rfl
    simp[hk];exact e13
 ·obtain⟨k,e⟩:=Tm.B24 ht (.inr hk);rw[e]at hl
  match ys,hl with
  |[x],_=>
    have d0:F7 3 (.list 3 [x.A9]) (iI 0)=some x.A9:=rfl;have rx:=hy x (by simp);have ra:=own.a (by rw[hk];rfl);have rb:=own.b (by rw[hk];rfl);have has:=Rn i S es hs sg hm [t.a,t.b] (by simp[J9]) (by
     intro u hu;simp at hu;rcases hu with rfl | rfl
     ·exact⟨hf.one.a,hf.one.avc⟩
     ·exact⟨hf.one.b,hf.one.bvc⟩)
    simp only[z9q,zfq,zEq,zQq,zqq]at has;have e13:LB C9 i (.list 3 [x.A9]) (iI 16) t.A9 sg=some (V4 (Ea t S [x]),sg):=by
     rw[XL];simp[Ty.M5,Ty.ag,has,d0,EN x (Ty.R5 rx),B0s _ _ (Ty.R5 ra) (Ty.R5 rb),ra,rb,Br,Ea,hk];cases h1:GD S t.a
     ·simp[V4]
     ·cases h2:GD S t.b
      ·simp[V4]
      ·by_cases h3:x=t.a<;>cases h4:t.a.agrees t.b<;>simp[h3,V4]
    simp[hk];exact e13
def B4T(hk:t.A8=11)(ht:t.right=true)(hf:t.fit)(IH:∀k∈t.D6,i_ k)(hi:i<sg.length)(hs:Z0 es S)(hl:EQ l)(hw:l.length+t.wide<=J9):
 ∃es',C9.r JV [(.undef,.map i),(t.A9,.val),(Y6 l,.val)] (sg.set i (.map false es))=some (V4 (ck t l S),sg.set i (.map false es'))/\Z0 es' S:=by
 have own:=Tm.EH ht;have pK:=z5q hf.one.vars;obtain⟨k,m,BD⟩:=Tm.YC ht (by omega);have Io:k∈t.D6:=by rw[BD];simp
 have Mh:m∈t.D6:=by rw[BD];simp
 have w1:=Tm.Oq Io;have w2:=Tm.Oq Mh;have d0:F7 20 (.list 20 [k.A9,m.A9]) (iI 0)=some k.A9:=rfl;have d1:F7 20 (.list 20 [k.A9,m.A9]) (iI 1)=some m.A9:=rfl;have tk:=wG i S es hs (sg.set i (.map false es)) (Iu hi _ _) t.vars pK;rw[B3k hk BD];suffices h:∃es',Mk C9 i t.A9 (Y6 l) (sg.set i (.map false es))=some (V4 (if takes S t.vars=true then(ck k l (t.vars++S)).bind λy=>ck m (l++[⟨t.name,y,t.vars⟩]) S else .error 6),sg.set i (.map false es'))/\Z0 es' S by obtain⟨es',h1,h2⟩:=h;exact⟨es',wm _ _ _ _ h1,h2⟩
 rw[A2f];cases htk:takes S t.vars
 ·rw[htk]at tk;refine⟨es,?_,hs⟩;simp[tk,V4,Br]
 ·rw[htk]at tk;obtain⟨es1,a1,a2⟩:=TF i 1 (.inl rfl) (sg.set i (.map false es)) t.vars pK es _ (Iu hi _ _) hs (λv=>by split<;>omega);rw[zNq]at a1;have s1:=B4G htk a2;obtain⟨es2,b1,b2⟩:=(IH k Io).at (Tm.M8 ht Io) (hf.kid Io) hi s1 hl (by omega);obtain⟨es3,c1,c2⟩:=TF i (-1) (.inr rfl) (sg.set i (.map false es2)) t.vars pK es2 _ (Iu hi _ _) b2 (λv=>by split<;>omega);rw[zNq]at c1;have s3:=B1O htk c2;cases hc:ck k l (t.vars++S)with
  |error e=>rw[hc]at b1;have he:=(av _ _ _ _ hc).ne;refine⟨es3,?_,s3⟩;simp[tk,a1,BD,d0,Tm.M5,Tm.ag,b1,V4,c1,he,Br,Except.bind]
  |ok y=>rw[hc]at b1;have ry:=Yp k (Tm.M8 ht Io) (hf.kid Io) _ _ y hl hc;obtain⟨es4,e1,e2⟩:=(IH m Mh).at (Tm.M8 ht Mh) (hf.kid Mh) hi s3 (hl.app (.one ⟨ry,pK,own.vars⟩):EQ (l++[⟨t.name,y,t.vars⟩])) (by simp;omega);have wt:=PV l [⟨t.name,y,t.vars⟩] (sg.set i (.map false es3)) (by simp;omega);simp only[z9q,zfq]at wt;refine⟨es4,?_,e2⟩;simp[tk,a1,BD,d0,d1,Tm.M5,Tm.ag,b1,V4,c1,Ty.M5,Ty.ag,Nm.agg,wt,e1,Except.bind];cases hc2:ck m (l++[⟨t.name,y,t.vars⟩]) S<;>simp[V4,Ty.M5,Ty.ag]
def B4U(hk:t.A8=12)(ht:t.right=true)(hf:t.fit)(IH:∀k∈t.D6,i_ k)(hi:i<sg.length)(hs:Z0 es S)(hl:EQ l)(hw:l.length+t.wide<=J9):
 ∃es',C9.r JW [(.undef,.map i),(t.A9,.val),(Y6 l,.val)] (sg.set i (.map false es))=some (V4 (ck t l S),sg.set i (.map false es'))/\Z0 es' S:=by
 have own:=Tm.EH ht;have pK:=z5q hf.one.vars;obtain⟨k,m,BD⟩:=Tm.YC ht (by omega);have Io:k∈t.D6:=by rw[BD];simp
 have Mh:m∈t.D6:=by rw[BD];simp
 have w1:=Tm.Oq Io;have w2:=Tm.Oq Mh;have ra:=own.a (by rw[hk];rfl);have rb:=own.b (by rw[hk];rfl);have rf:=A3O ra rb;have d0:F7 20 (.list 20 [k.A9,m.A9]) (iI 0)=some k.A9:=rfl;have d1:F7 20 (.list 20 [k.A9,m.A9]) (iI 1)=some m.A9:=rfl;have tk:=wG i S es hs (sg.set i (.map false es)) (Iu hi _ _) t.vars pK;rw[B3m hk BD];suffices h:∃es',Ml C9 i t.A9 (Y6 l) (sg.set i (.map false es))=some (V4 (if takes S t.vars=true then
  if GD (t.vars++S) t.a=true/\GD (t.vars++S) t.b=true then
   (ck k (l++[⟨t.name,.mk 9 0 [t.a,t.b],[]⟩,⟨t.arg,t.a,[]⟩]) (t.vars++S)).bind λy=>if y=t.b then ck m (l++[⟨t.name,.mk 9 0 [t.a,t.b],t.vars⟩]) S else .error 4
  else .error 6
  else .error 6),sg.set i (.map false es'))/\Z0 es' S by
  obtain⟨es',h1,h2⟩:=h;exact⟨es',wo _ _ _ _ h1,h2⟩
 rw[A2g];cases htk:takes S t.vars
 ·rw[htk]at tk;refine⟨es,?_,hs⟩;simp[tk,V4,Br]
 ·rw[htk]at tk;obtain⟨es1,a1,a2⟩:=TF i 1 (.inl rfl) (sg.set i (.map false es)) t.vars pK es _ (Iu hi _ _) hs (λv=>by split<;>omega);rw[zNq]at a1;have s1:=B4G htk a2;have has:=Rn i _ es1 s1 (sg.set i (.map false es1)) (Iu hi _ _) [t.a,t.b] (by simp[J9]) (by
   intro u hu;simp at hu;rcases hu with rfl | rfl
   ·exact⟨hf.one.a,hf.one.avc⟩
   ·exact⟨hf.one.b,hf.one.bvc⟩)
  simp only[z9q,zfq,zEq,zQq,zqq]at has;have rest:∀(es2:List (DV×DV))(e:Int)(y:Ty),Z0 es2 (t.vars++S)->(e=0->y.right=true)->∃es',Jj C9 i (Y6 l) (iI e) t.A9 (.str t.name) (iI 9) (iI 0) (.list 3 [t.a.A9,t.b.A9])
   (iI y.A8) (iI y.n) (.list 3 (y.D6.map Ty.A9)) (sg.set i (.map false es2))=some (V4 (if e=0 then if y=t.b then ck m (l++[⟨t.name,.mk 9 0 [t.a,t.b],t.vars⟩]) S else .error 4 else .error e),sg.set i (.map false es'))/\Z0 es' S:=by
   intro es2 e y hs2 hy;obtain⟨es3,c1,c2⟩:=TF i (-1) (.inr rfl) (sg.set i (.map false es2)) t.vars pK es2 _ (Iu hi _ _) hs2 (λv=>by split<;>omega);rw[zNq]at c1;have s3:=B1O htk c2;rw[tV];by_cases he:e=0
   ·have ry:=hy he;by_cases hyb:y=t.b
    ·obtain⟨es4,e1,e2⟩:=(IH m Mh).at (Tm.M8 ht Mh) (hf.kid Mh) hi s3 (hl.app (.one ⟨rf,pK,own.vars⟩):EQ (l++[⟨t.name,.mk 9 0 [t.a,t.b],t.vars⟩])) (by simp;omega);have wt:=PV l [⟨t.name,.mk 9 0 [t.a,t.b],t.vars⟩] (sg.set i (.map false es3)) (by simp;omega);simp only[z9q,zfq]at wt;have ea:DV.agg [.str t.name,iI 9,iI 0,.list 3 [t.a.A9,t.b.A9],K6 t.vars]=Nm.A9 ⟨t.name,.mk 9 0 [t.a,t.b],t.vars⟩:=rfl;refine⟨es4,?_,e2⟩;simp[c1,he,Ty.M5,Ty.ag,EN t.b (Ty.R5 rb),hyb,BD,d1,Tm.M5,Tm.ag,ea,wt,e1];cases hc2:ck m (l++[⟨t.name,.mk 9 0 [t.a,t.b],t.vars⟩]) S<;>simp[V4,Ty.M5,Ty.ag]
    ·refine⟨es3,?_,s3⟩;simp[c1,he,Ty.M5,Ty.ag,EN y (Ty.R5 ry),hyb,V4,Br]
   ·refine⟨es3,?_,s3⟩;simp[c1,he,V4,Br]
  have C1E:=A3V t.a t.b;have f0:(Ty.mk 9 0 [t.a,t.b]).A9=.agg [iI 9,iI 0,.list 3 [t.a.A9,t.b.A9]]:=Ty.K9 _;by_cases Qa:GD (t.vars++S) t.a=true/\GD (t.vars++S) t.b=true
  ·obtain⟨ha,hb⟩:=Qa;rw[ha,hb]at has;obtain⟨es2,b1,b2⟩:=(IH k Io).at (Tm.M8 ht Io) (hf.kid Io) hi s1 (hl.app (.two (Nm.vW rf) (Nm.vW ra)):EQ (l++[⟨t.name,.mk 9 0 [t.a,t.b],[]⟩,⟨t.arg,t.a,[]⟩])) (by simp;omega);have wt:=PV l [⟨t.name,.mk 9 0 [t.a,t.b],[]⟩,⟨t.arg,t.a,[]⟩] (sg.set i (.map false es1)) (by simp;omega);simp only[z9q,zfq]at wt;have ea:DV.agg [.str t.name,iI 9,iI 0,.list 3 [t.a.A9,t.b.A9],.list 1 []]=Nm.A9 ⟨t.name,.mk 9 0 [t.a,t.b],[]⟩:=rfl;cases hc:ck k (l++[⟨t.name,.mk 9 0 [t.a,t.b],[]⟩,⟨t.arg,t.a,[]⟩]) (t.vars++S)with
   |error e=>rw[hc]at b1;have he:=(av _ _ _ _ hc).ne;obtain⟨es3,c1,c2⟩:=rest es2 e O5 b2 (λh=>absurd h he);refine⟨es3,?_,c2⟩;simp only[C8 he]at c1;have z1:O5.A8=0:=rfl;have z2:O5.n=0:=rfl;have z3:O5.D6=[]:=rfl;rw[z1,z2,z3]at c1;simp only[zfq]at c1;simp[tk,a1,has,Ty.M5,Ty.ag,C1E,ha,hb,BD,d0,Tm.M5,Tm.ag,ea,Nm.B7n,wt,b1,V4,c1,Except.bind,z1,z2,z3]
   |ok y=>rw[hc]at b1;have ry:=Yp k (Tm.M8 ht Io) (hf.kid Io) _ _ y (hl.app (.two (Nm.vW rf) (Nm.vW ra))) hc;obtain⟨es3,c1,c2⟩:=rest es2 0 y b2 (λ_=>ry);refine⟨es3,?_,c2⟩;simp only[H5]at c1;simp[tk,a1,has,Ty.M5,Ty.ag,C1E,ha,hb,BD,d0,Tm.M5,Tm.ag,ea,Nm.B7n,wt,b1,V4,c1,Except.bind]
  ·obtain⟨es3,c1,c2⟩:=rest es1 6 O5 s1 (λh=>by cases h);refine⟨es3,?_,c2⟩;simp only[show ¬((6:Int)=0)by omega,F9]at c1;have z1:O5.A8=0:=rfl;have z2:O5.n=0:=rfl;have z3:O5.D6=[]:=rfl;rw[z1,z2,z3]at c1;simp only[zfq]at c1;have C8y:(GD (t.vars++S) t.a&&GD (t.vars++S) t.b)=false:=by rw[zXq];intro h;simp only[zrq]at h;exact Qa h
   rw[C8y]at has;simp[tk,a1,has,Ty.M5,Ty.ag,C1E,C8 Qa,c1,BD]
def B0v(hk:t.A8=14)(ht:t.right=true)(hf:t.fit)(IH:∀k∈t.D6,i_ k)(hi:i<sg.length)(hs:Z0 es S)(hl:EQ l)(hw:l.length+t.wide<=J9):
 ∃es',C9.r Ho [(.undef,.map i),(t.A9,.val),(Y6 l,.val)] (sg.set i (.map false es))=some (V4 (ck t l S),sg.set i (.map false es'))/\Z0 es' S:=by
 have own:=Tm.EH ht;obtain⟨k,ks,BD,Bl⟩:=Tm.C21 ht hk;have Io:k∈t.D6:=by rw[BD];simp
 have w1:=Tm.Oq Io;have YZ:=hf.one.H8;have hpb:=big (z5q YZ);have d0:F7 20 (.list 20 (k.A9::ks.map Tm.A9)) (iI 0)=some k.A9:=rfl;rw[A6T hk BD];suffices h:∃es',LA C9 i t.A9 (Y6 l) (sg.set i (.map false es))=some (V4 ((ck k l S).bind λy=>CJ y l S (t.H8.zip (ks.map ck)) none),sg.set i (.map false es'))/\Z0 es' S by obtain⟨es',h1,h2⟩:=h;exact⟨es',qg _ _ _ _ h1,h2⟩
 obtain⟨es1,b1,b2⟩:=(IH k Io).at (Tm.M8 ht Io) (hf.kid Io) hi hs hl (by omega);rw[xH];cases hc:ck k l S with
 |error e=>rw[hc]at b1;have he:=(av _ _ _ _ hc).ne;refine⟨es1,?_,b2⟩;simp[BD,d0,Tm.M5,Tm.ag,b1,V4,he,Br,Except.bind]
 |ok y=>
   rw[hc]at b1;have ry:=Yp k (Tm.M8 ht Io) (hf.kid Io) _ _ y hl hc;have loop:∀(n j:Nat)(out:Option Ty)(es:List (DV×DV)),j+n=t.H8.length->(out=none↔j=0)->(∀o,out=some o->o.right=true)->Z0 es S->
    ∃es',Ey C9 i (Y6 l) (.list 7 (t.H8.map E8.A9)) (iI t.H8.length) (iI j) t.A9 y.A9 (iI (out.getD O5).A8) (iI (out.getD O5).n) (.list 3 ((out.getD O5).D6.map Ty.A9)) (sg.set i (.map false es)) =
      some (V4 (CJ y l S ((t.H8.zip (ks.map ck)).drop j) out),sg.set i (.map false es'))/\Z0 es' S:=by
    intro n;induction n with
    |zero=>
      intro j out es hj ho hor hs;refine⟨es,?_,hs⟩;have:¬j<t.H8.length:=by omega
      rw[z7q (by rw[zAq,z3q];omega),TN];simp[this,CJ,V4,Ty.M5,Ty.ag]
    |succ n ihn=>
      intro j out es hj ho hor hs;have h:j<t.H8.length:=by omega
      have BS:j<ks.length:=by omega
      have hzl:j<(t.H8.zip (ks.map ck)).length:=by rw[zAq,z3q];omega
      have hz:(t.H8.zip (ks.map ck))[j]=(t.H8[j],ck ks[j]):=by simp
      have hmp:t.H8[j]∈t.H8:=z0q h;have hfp:=hf.one.pat _ hmp;have hB:=B4Z t.H8[j] y hfp (own.H8 _ hmp) ry;rw[z2q hzl,hz];simp only[CJ];rw[TN];cases hb:t.H8[j].binds y with
      |none=>rw[hb]at hB;refine⟨es,?_,hs⟩;simp[h,J3 h,E8.M5,E8.ag,Ty.M5,Ty.ag,hB,V4,Br]
      |some b=>
        rw[hb]at hB;simp only at hB;have vO:=E8.ak _ _ _ hb;have hps:=JN (f:=E8.size) hmp;have hbr:=E8.A5r _ _ _ ry hb;have Xz:ks[j]∈t.D6:=by rw[BD];exact y1q _ (z0q BS)
        have wk:=Tm.Oq Xz;have wt:=PV l [] (sg.set i (.map false es)) (by simp;omega);simp only[zfq,zLq]at wt;have bN:b.length<4294967297:=big (by omega);have l13:=HZ (l:=b) (P:=λq (a:List Nm)=>AJ C9 i (Y6 l) (iI j) (Y6 a) (.list 7 (t.H8.map E8.A9)) (iI t.H8.length) (iI j) (CF b) (iI b.length) (iI q) t.A9 y.A9
         (iI (out.getD O5).A8) (iI (out.getD O5).n) (.list 3 ((out.getD O5).D6.map Ty.A9)) (sg.set i (.map false es)))
         (g:=λa e=>a++[Em e]) (fin:=λa=>AJ C9 i (Y6 l) (iI j) (Y6 a) (.list 7 (t.H8.map E8.A9)) (iI t.H8.length) (iI j) (CF b) (iI b.length) (iI b.length) t.A9 y.A9
           (iI (out.getD O5).A8) (iI (out.getD O5).n) (.list 3 ((out.getD O5).D6.map Ty.A9)) (sg.set i (.map false es)))
         (I:=λq a=>a.length=l.length+q) (λa _=>rfl)
         (λq hq a ha=>by refine⟨?_,by simp[ha];omega⟩;rw[EA];have hap:=Cs (e:=Nm.A9) (sz:=5) (l:=a) (x:=Em b[q]) (by omega);have C1B:AP 5 (Y6 a) (.list 5 [.agg [.str b[q].1,iI b[q].2.A8,iI b[q].2.n,.list 3 (b[q].2.D6.map Ty.A9),.list 1 []]])=some (Y6 (a++[Em b[q]])):=hap;have e1:F7 4 (CF b) (iI (q:Int))=some (XH b[q]):=J3 hq;simp[hq,e1,C1B,O8 (show q<9223372036854775807 by omega)]) l rfl
        have B7T:∀(m:List (ByteArray×Ty))(a:List Nm),m.foldl (λa e=>a++[Em e]) a=a++m.map Em:=by
         intro m;induction m with
         |nil=>intro a;simp
         |cons x m ih=>intro a;simp[ih]
        rw[B7T]at l13;have nb:EQ (l++b.map Em):=hl.app (EQ.C5x hbr);obtain⟨es2,e1,e2⟩:=(IH _ Xz).at (Tm.M8 ht Xz) (hf.kid Xz) hi hs nb (by simp;omega);have dj:F7 20 (.list 20 (t.D6.map Tm.A9)) (iI ((j+1:Nat):Int))=some ks[j].A9:=by
         have hx:j+1<t.D6.length:=by rw[BD];simp;omega
         rw[J3 hx];congr 2;simp[BD]
        have ha1:=O8 (show j<9223372036854775807 by omega);dsimp only;cases hck:ck ks[j] (l++b.map Em) S with
        |error e=>
          rw[hck]at e1;have he:=(av _ _ _ _ hck).ne;have xQ:AJ C9 i (Y6 l) (iI j) (Y6 (l++b.map Em)) (.list 7 (t.H8.map E8.A9)) (iI t.H8.length) (iI j) (CF b) (iI b.length) (iI b.length) t.A9 y.A9
           (iI (out.getD O5).A8) (iI (out.getD O5).n) (.list 3 ((out.getD O5).D6.map Ty.A9)) (sg.set i (.map false es))=some ([O5.A9,iI e],sg.set i (.map false es2)):=by
           rw[EA];simp only[J6,zcq,R4,F8,E9,z1q,F9,ha1,Tm.CK,dj,Tm.M5,Tm.ag,Tm.pj,I7,e1,V4,Ct,Cu,R9,F4,Z6,he,zoq,H5,Br]
          refine⟨es2,?_,e2⟩;have:=l13.trans xQ;simp[h,J3 h,E8.M5,E8.ag,Ty.M5,Ty.ag,hB,wt,this,V4,Except.bind]
        |ok a=>
          rw[hck]at e1;have ra:=Yp _ (Tm.M8 ht Xz) (hf.kid Xz) _ _ a nb hck;cases out with
          |none=>
            have hj0:j=0:=ho.1 rfl;obtain⟨es3,f1,f2⟩:=ihn (j+1) (some a) es2 (by omega) (by simp) (λo h=>by cases h;exact ra) e2;refine⟨es3,?_,f2⟩;have xQ:AJ C9 i (Y6 l) (iI j) (Y6 (l++b.map Em)) (.list 7 (t.H8.map E8.A9)) (iI t.H8.length) (iI j) (CF b) (iI b.length) (iI b.length) t.A9 y.A9
             (iI ((none:Option Ty).getD O5).A8) (iI ((none:Option Ty).getD O5).n) (.list 3 (((none:Option Ty).getD O5).D6.map Ty.A9)) (sg.set i (.map false es))=some (V4 (CJ y l S ((t.H8.zip (ks.map ck)).drop (j+1)) (some a)),sg.set i (.map false es3)):=by
             rw[EA];have B35:decide ((j:Int)=0)=true:=by simp[hj0]
             simp only[J6,zcq,R4,F8,E9,z1q,F9,ha1,Tm.CK,dj,Tm.M5,Tm.ag,Tm.pj,I7,e1,V4,Ct,Cu,R9,F4,Z6,P6,L8,zgq,B35,H5,Ty.AV,Ty.Ju,Ty.En];exact f1
            have:=l13.trans xQ;simp[h,J3 h,E8.M5,E8.ag,Ty.M5,Ty.ag,hB,wt,Except.bind];exact this
          |some o=>
            have hj0:¬j=0:=λh=>by have:=ho.2 h;cases this
            by_cases hao:a=o
            ·obtain⟨es3,f1,f2⟩:=ihn (j+1) (some o) es2 (by omega) (by simp) hor e2;refine⟨es3,?_,f2⟩;have xQ:AJ C9 i (Y6 l) (iI j) (Y6 (l++b.map Em)) (.list 7 (t.H8.map E8.A9)) (iI t.H8.length) (iI j) (CF b) (iI b.length) (iI b.length) t.A9 y.A9
              (iI ((some o).getD O5).A8) (iI ((some o).getD O5).n) (.list 3 (((some o).getD O5).D6.map Ty.A9)) (sg.set i (.map false es))=some (V4 (CJ y l S ((t.H8.zip (ks.map ck)).drop (j+1)) (some o)),sg.set i (.map false es3)):=by
              rw[EA];have B35:¬(j:Int)=0:=by omega
              simp only[J6,zcq,R4,F8,E9,z1q,F9,ha1,Tm.CK,dj,Tm.M5,Tm.ag,Tm.pj,I7,e1,V4,Ct,Cu,R9,F4,Z6,P6,L8,zgq,B35,H5,Ty.AV,Ty.Ju,Ty.En,Ty.M5,Ty.ag,y8q,EN o (Ty.R5 (hor o rfl)),hao,eq_self,P9];exact f1
             have:=l13.trans xQ;simp[h,J3 h,E8.M5,E8.ag,Ty.M5,Ty.ag,hB,wt,Except.bind,hao];exact this
            ·refine⟨es2,?_,e2⟩;have xQ:AJ C9 i (Y6 l) (iI j) (Y6 (l++b.map Em)) (.list 7 (t.H8.map E8.A9)) (iI t.H8.length) (iI j) (CF b) (iI b.length) (iI b.length) t.A9 y.A9
              (iI ((some o).getD O5).A8) (iI ((some o).getD O5).n) (.list 3 (((some o).getD O5).D6.map Ty.A9)) (sg.set i (.map false es))=some (V4 (.error 4),sg.set i (.map false es2)):=by
              rw[EA];have B35:¬(j:Int)=0:=by omega
              simp only[J6,zcq,R4,F8,E9,z1q,F9,ha1,Tm.CK,dj,Tm.M5,Tm.ag,Tm.pj,I7,e1,V4,Ct,Cu,R9,F4,Z6,P6,L8,zgq,B35,H5,Ty.AV,Ty.Ju,Ty.En,Ty.M5,Ty.ag,y8q,EN a (Ty.R5 ra),hao,P9,Br,zoq]
             have:=l13.trans xQ;simp[h,J3 h,E8.M5,E8.ag,Ty.M5,Ty.ag,hB,wt,Except.bind,hao];exact this
   obtain⟨es',h1,h2⟩:=loop t.H8.length 0 none es1 (by omega) (by simp) (λo h=>by cases h) b2;refine⟨es',?_,h2⟩;have z1:((none:Option Ty).getD O5).A8=0:=rfl;have z2:((none:Option Ty).getD O5).n=0:=rfl;have z3:((none:Option Ty).getD O5).D6=[]:=rfl;rw[z1,z2,z3]at h1;simp only[zfq,ziq]at h1;simp[BD,d0,Tm.M5,Tm.ag,b1,V4,Except.bind];exact h1
def B2w:i_ t:=by
 induction t using Tm.ind with
 |h t ih=>
   intro ht hf i l S sg es hm hs hl hw;have own:=Tm.EH ht;have hi:=yL hm;have bQ:=A7j hm;have hw2:2<=t.wide:=by rw[Tm.A4F];omega
   suffices h:∃es',Ff C9 i t.A9 (Y6 l) sg=some (V4 (ck t l S),sg.set i (.map false es'))/\Z0 es' S by obtain⟨es',h1,h2⟩:=h;exact⟨es',sw _ _ _ _ h1,h2⟩
   have rest:(t.A8=6\/t.A8=8\/t.A8=10\/t.A8=13\/t.A8=15\/t.A8=16)->∃es',Ff C9 i t.A9 (Y6 l) sg=some (V4 (ck t l S),sg.set i (.map false es'))/\Z0 es' S:=by
    intro hk;obtain⟨es1,k1,k2⟩:=B2u t ht hf ih hi hs hl hw;rw[bQ]at k1;rw[Yo hk,CP];have n1:¬t.A8=1:=by omega
    have n2:¬t.A8=2:=by omega
    have n3:¬t.A8=3:=by omega
    have n4:¬t.A8=4:=by omega
    have n5:¬t.A8=5:=by omega
    have n7:¬t.A8=7:=by omega
    have n9:¬t.A8=9:=by omega
    have n11:¬t.A8=11:=by omega
    have n12:¬t.A8=12:=by omega
    have n14:¬t.A8=14:=by omega
    cases hc:Aa l S (t.D6.map ck)with
    |error e=>
      rw[hc]at k1;have he:¬e=0:=by obtain⟨k,_,h⟩:=wy hc;exact(av _ _ _ _ h).ne
      refine⟨es1,?_,k2⟩;simp[n1,n2,n3,n4,n5,n7,n9,n11,n12,n14,Tm.M5,Tm.ag,k1,pO,he,V4,Br,Except.bind]
    |ok ys=>rw[hc]at k1;obtain⟨hl1,hy⟩:=Nu hc;have hof:=B57 t ht hf hk (Iu hi false es1) k2 hl1 (λy h=>by obtain⟨k,a,b⟩:=hy y h;exact Yp k (Tm.M8 ht a) (hf.kid a) l S y hl b);refine⟨es1,?_,k2⟩;simp[n1,n2,n3,n4,n5,n7,n9,n11,n12,n14,Tm.M5,Tm.ag,k1,pO,hof,Except.bind];cases Ea t S ys<;>simp[V4,Ty.M5,Ty.ag]
   have leaf:∀c:Int,t.A8=c->2<=c->c<=5->∃es',Ff C9 i t.A9 (Y6 l) sg=some (V4 (ck t l S),sg.set i (.map false es'))/\Z0 es' S:=by
    intro c hk h2 h5;refine⟨es,?_,hs⟩;rw[A4j (by omega),CP,tX,bQ];have a1:D7 .sub (iI t.A8) (iI 2)=some (iI (t.A8-2)):=by rw[FX,X7 (by omega) (by omega)]
    have a2:D7 .add (iI (t.A8-2)) (iI 1)=some (iI (t.A8-1)):=by rw[GJ (by omega) (by omega)];congr 2;omega
    simp only[I8,F4,Tm.AV,P6,F8,E9,F5,a1,a2,Gg,V4,Ty.B6V];rw[C8 (by omega)];by_cases e2:t.A8=2
    ·rw[D5 e2]
    rw[C8 e2];by_cases e3:t.A8=3
    ·rw[D5 e3]
    rw[C8 e3];by_cases e4:t.A8=4
    ·rw[D5 e4]
    rw[C8 e4,D5 (by omega)]
   rcases Tm.kinds ht with hk | hk | hk | hk | hk | hk | hk | hk | hk | hk | hk | hk | hk
   ·have:=B2v t hk ht hf i l S sg es hm hs hl (by omega);refine⟨es,?_,hs⟩;rw[CP,bQ];simp[hk];have he:∀(x:DV),x=t.A9->C9.r Li [(.undef,.map i),(x,.val),(Y6 l,.val)] sg=some (V4 (ck t l S),sg):=λx hx=>by rw[hx];exact this
    rw[he _ (by rw[Tm.K9,hk])];cases ck t l S<;>simp[V4,Ty.M5,Ty.ag]
   ·rcases hk with hk | hk | hk | hk
    ·exact leaf 2 hk (by omega) (by omega)
    ·exact leaf 3 hk (by omega) (by omega)
    ·exact leaf 4 hk (by omega) (by omega)
    ·exact leaf 5 hk (by omega) (by omega)
   ·exact rest (by omega)
   ·have has:=Rn i S es hs sg hm [t.a] (by simp[J9]) (by intro u hu;simp at hu;subst hu;exact⟨hf.one.a,hf.one.avc⟩)
    simp only[z9q,zfq,zEq,zQq,zqq]at has;refine⟨es,?_,hs⟩;rw[CP,bQ,B3l hk];simp[hk,Ty.M5,Ty.ag,has];cases GD S t.a<;>simp[V4,Br,Ty.C3V]
   ·exact rest (by omega)
   ·obtain⟨k,BD⟩:=Tm.B24 ht (.inl hk);have Io:k∈t.D6:=by rw[BD];simp
    have w1:=Tm.Oq Io;have ra:=own.a (by rw[hk];rfl);have d0:F7 20 (.list 20 [k.A9]) (iI 0)=some k.A9:=rfl;have has:=Rn i S es hs sg hm [t.a] (by simp[J9]) (by intro u hu;simp at hu;subst hu;exact⟨hf.one.a,hf.one.avc⟩)
    simp only[z9q,zfq,zEq,zQq,zqq]at has;rw[CP,B3j hk BD];cases Qa:GD S t.a
    ·rw[Qa]at has;refine⟨es,?_,hs⟩;rw[bQ];simp[hk,Ty.M5,Ty.ag,has,V4,Br]
    ·rw[Qa]at has;have nl:EQ (l++[⟨t.name,t.a,[]⟩]):=hl.app (.one (Nm.vW ra));obtain⟨es1,b1,b2⟩:=(ih k Io).at (Tm.M8 ht Io) (hf.kid Io) hi hs nl (by simp;omega);rw[bQ]at b1;have wt:=PV l [⟨t.name,t.a,[]⟩] sg (by simp;omega);simp only[z9q,zfq]at wt;refine⟨es1,?_,b2⟩;cases hc:ck k (l++[⟨t.name,t.a,[]⟩]) S with
     |error e=>rw[hc]at b1;have he:=(av _ _ _ _ hc).ne;simp[hk,Ty.M5,Ty.ag,has,BD,d0,Tm.M5,Tm.ag,Nm.B7n,wt,b1,V4,he,Br,Except.bind]
     |ok y=>rw[hc]at b1;simp[hk,Ty.M5,Ty.ag,has,BD,d0,Tm.M5,Tm.ag,Nm.B7n,wt,b1,V4,A3V,Ty.B6W,Except.bind]
   ·exact rest (by omega)
   ·obtain⟨es1,b1,b2⟩:=B4T t hk ht hf ih hi hs hl hw;rw[bQ]at b1;refine⟨es1,?_,b2⟩;rw[CP];have he:∀(x:DV),x=t.A9->C9.r JV [(.undef,.map i),(x,.val),(Y6 l,.val)] sg=some (V4 (ck t l S),sg.set i (.map false es1)):=λx hx=>by rw[hx];exact b1
    simp[hk];rw[he _ (by rw[Tm.K9,hk])];cases ck t l S<;>simp[V4,Ty.M5,Ty.ag]
   ·obtain⟨es1,b1,b2⟩:=B4U t hk ht hf ih hi hs hl hw;rw[bQ]at b1;refine⟨es1,?_,b2⟩;rw[CP];have he:∀(x:DV),x=t.A9->C9.r JW [(.undef,.map i),(x,.val),(Y6 l,.val)] sg=some (V4 (ck t l S),sg.set i (.map false es1)):=λx hx=>by rw[hx];exact b1
    simp[hk];rw[he _ (by rw[Tm.K9,hk])];cases ck t l S<;>simp[V4,Ty.M5,Ty.ag]
   ·exact rest (by omega)
   ·obtain⟨es1,b1,b2⟩:=B0v t hk ht hf ih hi hs hl hw;rw[bQ]at b1;refine⟨es1,?_,b2⟩;rw[CP];have he:∀(x:DV),x=t.A9->C9.r Ho [(.undef,.map i),(x,.val),(Y6 l,.val)] sg=some (V4 (ck t l S),sg.set i (.map false es1)):=λx hx=>by rw[hx];exact b1
    simp[hk];rw[he _ (by rw[Tm.K9,hk])];cases ck t l S<;>simp[V4,Ty.M5,Ty.ag]
   ·exact rest (by omega)
   ·exact rest (by omega)
def A1b(hf:t.fit)(hw:t.wide<=J9):C9.p KW [t.A9]=some (.I4 (V4 (A8m t))):=by
 refine(A98 _).trans ?_;rw[B2b];unfold A8m;by_cases ht:t.right=true
 ·obtain⟨es',h1,h2⟩:=B2w t ht hf 0 [] [] [.map false []] [] rfl Z0.nil (λx hx=>by cases hx) (by simpa using hw);have e:Y6 []=.list 5 []:=rfl;rw[e]at h1;simp[Tm.M5,Tm.ag,fC t hf,ht,h1];cases ck t [] []<;>simp[V4,Ty.M5,Ty.ag]
 ·simp[Tm.M5,Tm.ag,fC t hf,ht,V4,Br]
def A3W(hl:ts.length<=J9)(h:∀t∈ts,t.size<=J9):∃b:Bool,C9.p qL [.list 3 (ts.map Ty.A9)]=some (.bool b):=by
 have hb:=big hl;have loop:∀(n j:Nat),j+n=ts.length->∃b:Bool,SH C9 (.list 3 (ts.map Ty.A9)) (iI j)=some (.bool b):=by
  intro n;induction n with
  |zero=>
    intro j hj;refine⟨true,?_⟩;have:¬j<ts.length:=by omega
    rw[XO];simp[this]
  |succ n ih=>
    intro j hj;have BS:j<ts.length:=by omega
    obtain⟨b,HV⟩:=ih (j+1) (by omega);have Ak:=h _ (z0q BS);have hth:=Ty.FE Ak;obtain⟨c,hc⟩:=B2A ts[j] hth;have hd:=B6g ts[j] 60 (by omega) (by omega) hth;have hv:=B6c ts[j] Ak;push_cast at HV;rw[XO];cases c
    ·cases UQ:ts[j].deep 60
     ·by_cases hq:(8:Int)<(ts[j].vars.length:Int)
      ·exact⟨false,by simp[BS,J3 BS,Ty.M5,Ty.ag,hc,hd,UQ,hv,hq]⟩
      ·exact⟨b,by simp[BS,J3 BS,Ty.M5,Ty.ag,hc,hd,UQ,hv,hq,O8 (show j<9223372036854775807 by omega),HV]⟩
     ·exact⟨false,by simp[BS,J3 BS,Ty.M5,Ty.ag,hc,hd,UQ]⟩
    ·exact⟨false,by simp[BS,J3 BS,Ty.M5,Ty.ag,hc]⟩
 obtain⟨b,h1⟩:=loop ts.length 0 (by omega);refine⟨b,(A0s _).trans ?_⟩;rw[A2j];exact h1
def A3X(t:Ty)(h:t.size<=J9):∃b:Bool,C9.p PX [t.A9]=some (.bool b):=by
 obtain⟨b,hb⟩:=A3W [t] (by simp[J9]) (by simpa using h);simp only[z9q,zfq]at hb;have hs:=Ua t h;cases b
 ·refine⟨false,(PE _).trans ?_⟩;rw[Qx];simp[Ty.M5,Ty.ag,hb]
 ·refine⟨decide ((t.size:Int)<=60),(PE _).trans ?_⟩;rw[Qx];simp[Ty.M5,Ty.ag,hb,hs]
def iZ(x:ByteArray×Int):DV:=.agg [.str x.1,iI x.2]
variable (l:List (ByteArray×Int))
def BZ:DV:=.list 2 (l.map iZ)
@[simp] theorem C8i(x:ByteArray×Int):A7 0 (iZ x)=.str x.1:=rfl
@[simp] theorem C8j(x:ByteArray×Int):A7 1 (iZ x)=.int .i64 x.2:=rfl
@[simp] def C41:L6 (BZ l)=some (iI l.length):=by simp[BZ]
@[simp] theorem C2Y:J7 (BZ l)=true:=rfl
def Ub(s:ByteArray)(n:Int)(hl:l.length<J9):C9.p OA [BZ l,.str s,iI n]=some (BZ (l++[(s,n)])):=by
 refine(B3Q _ _ _).trans ?_;rw[B5F];have h1:AP 2 (.list 2 []) (BZ l)=some (BZ l):=by have:=B04 (e:=iZ) (sz:=2) (l:=[]) (m:=l) (by simp;omega);exact this
 have h2:AP 2 (BZ l) (.list 2 [.agg [.str s,iI n]])=some (BZ (l++[(s,n)])):=Cs (e:=iZ) (sz:=2) (l:=l) (x:=(s,n)) hl;simp[h1,h2]
def Room:Prop:=0<=n/\n<=3000
def Yk:Prop:=∀x∈l,Room x.2
theorem B3s(a b:Int):jo (iI a) (iI b)=some (iI (if b<a then b else a)):=rfl
theorem B3r(a b:Int):jm (iI a) (iI b)=some (iI (if b>a then b else a)):=rfl
def FN(sg:List H7)(i:Nat)(b:Bool):List H7:=sg.set i (.box [(.bool b,.val)])
def nZ(hi:i<sg.length)(b:Bool):Q7 (FN sg i b) i=some [(.bool b,.val)]:=qC hi _
variable (b:Bool)
def B9a(c:Bool):(FN sg i b).set i (.box [(.bool c,.val)])=FN sg i c:=by unfold FN;rw[zNq]
def KI(hi:i<sg.length)(b:Bool)(n:Int)(hn:0<=n):∃(m:Int)(c:Bool),C9.r CU [(.undef,.ptr i 0),(iI n,.val)] (FN sg i b)=some ([iI m],FN sg i c)/\Room m:=by
 by_cases h:3000<n
 ·refine⟨3000,true,(oW _ _ _).trans ?_,by unfold Room;omega⟩;rw[uA];have e:[((DV.bool b:DV),H6.val)].set 0 (.bool true,.val)=[(.bool true,.val)]:=rfl;have e0:[((DV.bool b:DV),H6.val)][0]?=some (.bool b,.val):=rfl;simp only[Ah,h,L8,F8,E9,H5,nZ hi,e0,B3s,e,B9a]
 ·refine⟨n,b,(oW _ _ _).trans ?_,by unfold Room;omega⟩;rw[uA];simp[h,B3s]
def B45(hi:i<sg.length)(b:Bool)(l:List (ByteArray×Int))(hl:l.length<=J9)(ho:Yk l)(s:ByteArray)(ts:List Ty)(hts:ts.length<=J9)(Ak:∀t∈ts,t.size<=J9):
 ∃(m:Int)(c:Bool),C9.r VM [(.undef,.ptr i 0),(BZ l,.val),(.str s,.val),(.list 3 (ts.map Ty.A9),.val)] (FN sg i b)=some ([iI m],FN sg i c)/\Room m:=by
 have hb:=big hl;have lW:=big hts;have l2:∀(m:Nat)(a:Int)(b:Bool),m<=l.length->0<=a->a<=3000->∃(r:Int)(c:Bool),LD C9 i (BZ l) (.str s) (iI a) (iI ((m:Int)-1)) (FN sg i b)=some ([iI r],FN sg i c)/\Room r:=by
  intro m;induction m with
  |zero=>intro a b _ h0 h1;refine⟨1,b,?_,by unfold Room;omega⟩;rw[XX];simp
  |succ m ih=>
    intro a b hm h0 h1;have h:m<l.length:=by omega
    have e1:((m+1:Nat):Int)-1=(m:Int):=by omega
    have e2:F7 2 (BZ l) (iI (m:Int))=some (iZ l[m]):=J3 h;have e3:D7 .sub (iI (m:Int)) (iI 1)=some (iI ((m:Int)-1)):=by rw[FX,X7 (by omega) (by omega)]
    rw[e1,XX];by_cases hn:l[m].1=s
    ·obtain⟨r0,r1⟩:=ho _ (z0q h);have p0:0<=a * l[m].2:=Int.mul_nonneg h0 r0;have p1:a * l[m].2<=3000 * 3000:=Int.mul_le_mul h1 r1 r0 (by omega);have e4:D7 .mul (iI a) (iI l[m].2)=some (iI (a * l[m].2)):=by rw[A6W,X7 (by omega) (by omega)]
     obtain⟨r,c,k1,k2⟩:=KI hi b _ p0;exact⟨r,c,by simp[e2,hn,e4,k1],k2⟩
    ·obtain⟨r,c,k1,k2⟩:=ih a b (by omega) h0 h1;exact⟨r,c,by simp[e2,hn,e3,k1],k2⟩
 have l1:∀(n j:Nat)(a:Int)(b:Bool),j+n=ts.length->0<=a->a<=3000->∃(r:Int)(c:Bool),LC C9 i (BZ l) (.str s) (.list 3 (ts.map Ty.A9)) (iI a) (iI j) (FN sg i b)=some ([iI r],FN sg i c)/\Room r:=by
  intro n;induction n with
  |zero=>
    intro j a b hj h0 h1;obtain⟨r,c,k1,k2⟩:=l2 l.length a b (zeq _) h0 h1;refine⟨r,c,?_,k2⟩;have:¬j<ts.length:=by omega
    rw[XW];have e3:D7 .sub (iI (l.length:Int)) (iI 1)=some (iI ((l.length:Int)-1)):=by rw[FX,X7 (by omega) (by omega)]
    simp[this,e3,k1]
  |succ n ih=>
    intro j a b hj h0 h1;have h:j<ts.length:=by omega
    obtain⟨m,c,k1,k2,k3⟩:=KI hi b (ts[j].size:Int) (by omega);have hmx:0<=(if m>a then m else a)/\(if m>a then m else a)<=3000:=by split<;>omega
    obtain⟨r,d,q1,q2⟩:=ih (j+1) (if m>a then m else a) c (by omega) hmx.1 hmx.2;refine⟨r,d,?_,q2⟩;rw[XW];push_cast at q1;simp only[N8,z3q,J6,zhq,h,L8,F8,E9,H5,J3 h,Ty.AV,Ty.Ju,Ty.En,Ty.M5,Ty.ag,Ua _ (Ak _ (z0q h)),k1,zsq,B3r,O8 (show j<9223372036854775807 by omega)]
    push_cast;exact q1
 obtain⟨r,c,k1,k2⟩:=l1 ts.length 0 1 b (by omega) (by omega) (by omega);refine⟨r,c,(A2Y _ _ _ _ _).trans ?_,k2⟩;rw[A4J];exact k1
def C0W:Prop:=t.right=true->t.fit->t.sized->∀(sg:List H7)(i:Nat)(l:List (ByteArray×Int))(b:Bool),i<sg.length->Yk l->l.length+t.wide<=J9->∃(m:Int)(c:Bool),C9.r gU [(.undef,.ptr i 0),(t.A9,.val),(BZ l,.val)] (FN sg i b)=some ([iI m],FN sg i c)/\Room m
def Yk.app{l:List (ByteArray×Int)}(h:Yk l){s:ByteArray}{n:Int}(hn:Room n):Yk (l++[(s,n)]):=λx hx=>by
 rcases zzq.1 hx with hx | hx
 ·exact h x hx
 ·simp at hx;subst hx;exact hn
def B6k:C0W t:=by
 induction t using Tm.ind with
 |h t ih=>
   intro ht hf hz sg i l b hi hr hw;have own:=Tm.EH ht;have hkb:=big (z5q hf.one.D6);have hkl:=hf.one.D6;have YZ:=hf.one.H8;have hA:=Ua t.a hz.a;have hB:=Ua t.b hz.b;have hAb:=big hz.a;have hBb:=big hz.b;have hwt:=Tm.A4F t;have l25:∀(ks:List Int),(∀x∈ks,Room x)->ks.length=t.D6.length->∀(n j:Nat)(a:Int)(b:Bool),j+n=ks.length->0<=a->a<=3000->
    ∃(m:Int)(c:Bool),SX C9 i (BZ l) (K6 ks) (iI a) (iI j) t.A9 (FN sg i b)=some ([iI m],FN sg i c)/\Room m:=by
    intro ks Ny Bl n;induction n with
    |zero=>
      intro j a b hj h0 h1;have BS:¬j<ks.length:=by omega
      rw[oG];by_cases k1:t.A8=1
      ·obtain⟨m,c,q1,q2⟩:=B45 hi b l (by omega) hr t.name t.args (z5q hf.one.args) hz.args;exact⟨m,c,by simp[BS,k1,q1],q2⟩
      by_cases k7:t.A8=7
      ·obtain⟨m,c,q1,q2⟩:=KI hi b ((t.a.size:Int)+1) (by omega);exact⟨m,c,by simp[BS,k7,Ty.M5,Ty.ag,hA,GJ (show(-9223372036854775808:Int)<=(t.a.size:Int)+1 by omega) (by omega),q1],q2⟩
      by_cases k6:t.A8=6
      ·obtain⟨u,v,BD⟩:=Tm.YC ht (by omega);rw[BD]at Bl
       match ks,Bl,Ny with
       |[x,y],_,Ny=>
         obtain⟨x0,x1⟩:=Ny x (by simp);obtain⟨y0,y1⟩:=Ny y (by simp);have d0:F7 1 (K6 [x,y]) (iI 0)=some (iI x):=rfl;have d1:F7 1 (K6 [x,y]) (iI 1)=some (iI y):=rfl;obtain⟨m,c,q1,q2⟩:=KI hi b (x+y+1) (by omega);have hj2:¬(j<2):=by simpa using BS
         refine⟨m,c,?_,q2⟩;have hj3:¬((j:Int)<((0+1+1:Nat):Int)):=by omega
         simp[hj2,hj3,k1,k7,k6,d0,d1,GJ (show(-9223372036854775808:Int)<=x+y by omega) (by omega),GJ (show(-9223372036854775808:Int)<=x+y+1 by omega) (by omega),q1];omega
      by_cases k8:t.A8=8
      ·obtain⟨m,c,q1,q2⟩:=KI hi b (a+1) (by omega);exact⟨m,c,by simp[BS,k1,k7,k6,k8,GJ (show(-9223372036854775808:Int)<=a+1 by omega) (by omega),q1],q2⟩
      by_cases k9:t.A8=9
      ·obtain⟨u,BD⟩:=Tm.B24 ht (by omega);rw[BD]at Bl
       match ks,Bl,Ny with
       |[x],_,Ny=>
         obtain⟨x0,x1⟩:=Ny x (by simp);have d0:F7 1 (K6 [x]) (iI 0)=some (iI x):=rfl;obtain⟨m,c,q1,q2⟩:=KI hi b ((t.a.size:Int)+1+x) (by omega);have hj2:¬(j<1):=by simpa using BS
         refine⟨m,c,?_,q2⟩;have hj3:¬((j:Int)<1):=by omega
         simp[hj2,hj3,k1,k7,k6,k8,k9,Ty.M5,Ty.ag,hA,d0,GJ (show(-9223372036854775808:Int)<=(t.a.size:Int)+1 by omega) (by omega),GJ (show(-9223372036854775808:Int)<=(t.a.size:Int)+1+x by omega) (by omega),q1]
      by_cases k16:t.A8=16
      ·obtain⟨m,c,q1,q2⟩:=KI hi b (t.b.size:Int) (by omega);exact⟨m,c,by simp[BS,k16,Ty.M5,Ty.ag,hB,q1],q2⟩
      exact⟨a,b,by simp[BS,k1,k7,k6,k8,k9,k16],h0,h1⟩
    |succ n ihn=>
      intro j a b hj h0 h1;have h:j<ks.length:=by omega
      obtain⟨x0,x1⟩:=Ny _ (z0q h);have hmx:0<=(if ks[j]>a then ks[j]else a)/\(if ks[j]>a then ks[j]else a)<=3000:=by split<;>omega
      obtain⟨m,c,q1,q2⟩:=ihn (j+1) _ b (by omega) hmx.1 hmx.2;refine⟨m,c,?_,q2⟩;rw[oG];push_cast at q1;simp only[Gx,J6,zhq,h,L8,F8,E9,H5,Bg h,B72,F4,B3r,O8 (show j<9223372036854775807 by omega)]
      push_cast;exact q1
   have l5:∀(n j:Nat)(ks:List Int)(b:Bool),j+n=t.D6.length->ks.length=j->(∀x∈ks,Room x)->∃(m:Int)(c:Bool),Uu C9 i (BZ l) (K6 ks) (iI j) t.A9 (FN sg i b)=some ([iI m],FN sg i c)/\Room m:=by
    intro n;induction n with
    |zero=>
      intro j ks b hj Bl Ny;obtain⟨m,c,q1,q2⟩:=l25 ks Ny (by omega) ks.length 0 1 b (by omega) (by omega) (by omega);refine⟨m,c,?_,q2⟩;have BS:¬j<t.D6.length:=by omega
      rw[uG];simp[BS];exact q1
    |succ n ihn=>
      intro j ks b hj Bl Ny;have h:j<t.D6.length:=by omega
      have RL:t.D6[j]∈t.D6:=z0q h;have hwk:=Tm.Oq RL;have l22:∀(l':List (ByteArray×Int))(b:Bool),Yk l'->l'.length<=l.length+2+(t.H8.map E8.size).sum->∃(m:Int)(c:Bool),EK C9 i (BZ l) (K6 ks) (iI j) (BZ l') t.A9 (FN sg i b)=some ([iI m],FN sg i c)/\Room m:=by
       intro l' b Bh hl';obtain⟨m,c,q1,q2⟩:=ih _ RL (Tm.M8 ht RL) (hf.kid RL) (hz.kid RL) sg i l' b hi Bh (by omega);obtain⟨m',c',p1,p2⟩:=ihn (j+1) (ks++[m]) c (by omega) (by simp[Bl]) (λx hx=>by
        rcases zzq.1 hx with hx | hx
        ·exact Ny x hx
        ·simp at hx;subst hx;exact q2)
       refine⟨m',c',?_,p2⟩;rw[A95];have hap:AP 1 (K6 ks) (.list 1 [iI m])=some (K6 (ks++[m])):=Cs (e:=λn=>DV.int .i64 n) (by omega);push_cast at p1;simp[J3 h,Tm.M5,Tm.ag,q1,hap,O8 (show j<9223372036854775807 by omega),p1]
      have l12:∀b:Bool,∃(m:Int)(c:Bool),Ut C9 i (BZ l) (K6 ks) (iI j) (BZ l) t.A9 (FN sg i b)=some ([iI m],FN sg i c)/\Room m:=by
       intro b;rw[A94];by_cases k12:t.A8=12
       ·obtain⟨m,c,q1,q2⟩:=KI hi b ((t.a.size:Int)+t.b.size+1) (by omega);have r1:=hr.app (s:=t.name) q2;have m1:=Ub l t.name m (by omega);have a1:D7 .add (iI (t.a.size:Int)) (iI (t.b.size:Int))=some (iI ((t.a.size:Int)+t.b.size)):=GJ (by omega) (by omega);have a2:D7 .add (iI ((t.a.size:Int)+t.b.size)) (iI 1)=some (iI ((t.a.size:Int)+t.b.size+1)):=GJ (by omega) (by omega);by_cases j0:j=0
        ·obtain⟨m',c',p1,p2⟩:=KI hi c (t.a.size:Int) (by omega);have m2:=Ub (l++[(t.name,m)]) t.arg m' (by simp;omega);obtain⟨z,d,o1,o2⟩:=l22 _ c' (r1.app (s:=t.arg) p2) (by simp);refine⟨z,d,?_,o2⟩;have j0':(j:Int)=0:=by omega
         rw[j0']at o1;simp[k12,Ty.M5,Ty.ag,hA,hB,a1,a2,q1,m1,j0,p1,m2];simpa using o1
        ·obtain⟨z,d,o1,o2⟩:=l22 _ c r1 (by simp;omega);refine⟨z,d,?_,o2⟩;simp[k12,Ty.M5,Ty.ag,hA,hB,a1,a2,q1,m1,j0,o1]
       by_cases k14:t.A8=14
       ·by_cases j0:0<j
        ·by_cases jp:j<=t.H8.length
         ·have hp:j-1<t.H8.length:=by omega
          have hmp:=z0q hp;have fp:=hf.one.pat _ hmp;have hnm:=nC _ fp.size;have hnl:=E8.Pn t.H8[j-1] [];have vQ:=JN (f:=E8.size) hmp;have j1:1<=ks.length:=by omega
          have d0:F7 1 (K6 ks) (iI 0)=some (iI ks[0]):=Bg (k:=.i64) (i:=0) (by omega);have hk0:=Ny _ (z0q (show 0<ks.length by omega));have hns:t.H8[j-1].names.length<=t.H8[j-1].size:=by simpa[E8.names]using hnl
          have hnb:t.H8[j-1].names.length<4294967297:=big (by have:=fp.size;omega);have l19:∀(n q:Nat)(l':List (ByteArray×Int))(b:Bool),q+n=t.H8[j-1].names.length->l'.length=l.length+q->Yk l'->∃(m:Int)(c:Bool),SV C9 i (BZ l) (K6 ks) (iI j) (BZ l') (N7 t.H8[j-1].names) (iI q) t.A9 (FN sg i b)=some ([iI m],FN sg i c)/\Room m:=by
           intro n;induction n with
           |zero=>
             intro q l' b hq hl' Bh;obtain⟨z,d,o1,o2⟩:=l22 l' b Bh (by omega);refine⟨z,d,?_,o2⟩;have:¬q<t.H8[j-1].names.length:=by omega
             rw[oF];simp[this,o1]
           |succ n ihq=>
             intro q l' b hq hl' Bh;have hq':q<t.H8[j-1].names.length:=by omega
             obtain⟨z,d,o1,o2⟩:=ihq (q+1) (l'++[(t.H8[j-1].names[q],ks[0])]) b (by omega) (by simp[hl'];omega) (Bh.app hk0);refine⟨z,d,?_,o2⟩;rw[oF];push_cast at o1;simp[hq',L_ hq',d0,Ub l' _ _ (show l'.length<J9 by omega),O8 (show q<9223372036854775807 by omega),o1]
          obtain⟨z,d,o1,o2⟩:=l19 t.H8[j-1].names.length 0 l b (by omega) (by omega) hr;refine⟨z,d,?_,o2⟩;have e3:D7 .sub (iI (j:Int)) (iI 1)=some (iI ((j-1:Nat):Int)):=by rw[FX,X7 (by omega) (by omega)];congr 2;omega
          have e4:F7 7 (.list 7 (t.H8.map E8.A9)) (iI ((j-1:Nat):Int))=some t.H8[j-1].A9:=J3 hp;simp[k14,j0,jp,e3,e4,E8.M5,E8.ag,hnm];exact o1
         ·obtain⟨z,d,o1,o2⟩:=l22 l b hr (by omega);refine⟨z,d,?_,o2⟩;simp[k14,j0,jp,o1]
        ·obtain⟨z,d,o1,o2⟩:=l22 l b hr (by omega);refine⟨z,d,?_,o2⟩;have j0':j=0:=by omega
         have j1':(j:Int)=0:=by omega
         rw[j1']at o1;simp[k14,j0'];exact o1
       ·obtain⟨z,d,o1,o2⟩:=l22 l b hr (by omega);refine⟨z,d,?_,o2⟩;simp[k12,k14,o1]
      rw[uG];by_cases k9:t.A8=9
      ·obtain⟨m,c,q1,q2⟩:=KI hi b (t.a.size:Int) (by omega);obtain⟨z,d,o1,o2⟩:=l22 _ c (hr.app (s:=t.name) q2) (by simp;omega);refine⟨z,d,?_,o2⟩;simp[h,k9,Ty.M5,Ty.ag,hA,q1,Ub l t.name m (by omega),o1]
      by_cases k11:t.A8=11
      ·by_cases j1:j=1
       ·have d0:F7 1 (K6 ks) (iI 0)=some (iI ks[0]):=Bg (k:=.i64) (i:=0) (by omega);have hk0:=Ny _ (z0q (show 0<ks.length by omega));obtain⟨z,d,o1,o2⟩:=l22 _ b (hr.app (s:=t.name) hk0) (by simp;omega);refine⟨z,d,?_,o2⟩;have j1':(j:Int)=1:=by omega
        have hc:(1:Int)<(t.D6.length:Int):=by omega
        rw[j1']at o1;simp[j1',hc,k11,d0,Ub l t.name ks[0] (by omega)];exact o1
       ·obtain⟨z,d,o1,o2⟩:=l12 b;have j1':¬(j:Int)=1:=by omega
        exact⟨z,d,by simp[h,k11,j1',j1,o1],o2⟩
      ·obtain⟨z,d,o1,o2⟩:=l12 b;exact⟨z,d,by simp[h,k9,k11,o1],o2⟩
   have cd:Y5 [((.bool b:DV),H6.val)] 0=some (.bool b):=rfl;cases b
   ·obtain⟨m,c,q1,q2⟩:=l5 t.D6.length 0 [] false (by omega) rfl (by simp);refine⟨m,c,(A21 _ _ _ _).trans ?_,q2⟩;rw[A5R];simp[nZ hi,cd];exact q1
   ·refine⟨1,true,(A21 _ _ _ _).trans ?_,by unfold Room;omega⟩;rw[A5R];simp[nZ hi,cd]
def A9H(hf:t.fit)(hz:t.sized)(hw:t.wide<=J9):∃b:Bool,C9.p Ye [t.A9]=some (.bool b):=by
 by_cases ht:t.right=true
 ·obtain⟨m,c,q1,q2⟩:=B6k t ht hf hz [.box [(.bool false,.val)]] 0 [] false (by simp) (λx hx=>by cases hx) (by simpa using hw);have e:FN [H7.box [(.bool false,.val)]] 0 false=[.box [(.bool false,.val)]]:=rfl;have e2:BZ []=.list 2 []:=rfl;rw[e,e2]at q1;refine⟨!c,(kV _).trans ?_⟩;rw[oD];have cd:Y5 [((.bool c:DV),H6.val)] 0=some (.bool c):=rfl;simp[Tm.M5,Tm.ag,Kz t hf,ht,q1,nZ (show 0<[H7.box [(.bool false,.val)]].length by simp),cd]
 ·refine⟨true,(kV _).trans ?_⟩;rw[oD];have ht':t.right=false:=by simpa using ht
  simp[Tm.M5,Tm.ag,Kz t hf,ht']
def B8K(l:List (Int×Ty))(hl:l.length<=J9)(t:Ty):t.right=true->C9.p nP [t.A9,P7 l]=some (t.put l).A9:=by
 have hb:=big hl;induction t using Ty.ind with
 |h t ih=>
   intro ht;have hn:=t.Cx (Ty.R5 ht);refine(A58 _ _).trans ?_;rw[A8C,Ty.put_eq];by_cases h6:t.A8=6
   ·have loop:∀(m i:Nat),i+m=l.length->Wx C9 (P7 l) (iI i) t.A9=some ((look (l.drop i) t.n).getD t).A9:=by
     intro m;induction m with
     |zero=>
       intro i hi;have:¬i<l.length:=by omega
       rw[dY,z7q (by omega)];simp[this,look,Ty.M5,Ty.ag]
     |succ m ihm=>
       intro i hi;have h:i<l.length:=by omega
       have nx:=ihm (i+1) (by omega);push_cast at nx;have e1:F7 4 (P7 l) (iI (i:Int))=some (Y1 l[i]):=J3 h;rw[dY,z2q h];by_cases e:l[i].1=t.n
       ·simp only[look,y2q,e,L8]
        simp[h,e1,e,Ty.M5,Ty.ag]
       ·simp only[look,y2q,e,R4]at nx ⊢;simp[h,e1,e,O8 (show i<9223372036854775807 by omega),nx]
    have l0:=loop l.length 0 (by omega);simp only[zjq,zlq,zbq,ziq]at l0;simp[h6,l0]
   ·have loop:=HZ (l:=t.D6) (P:=λj (a:List Ty)=>Uo C9 (P7 l) (iI j) t.A9 (iI t.A8) (.list 3 (a.map Ty.A9)))
     (g:=λa k=>a++[k.put l]) (fin:=λa=>some (Ty.mk t.A8 0 a).A9) (I:=λj a=>a.length=j)
     (λa _=>by rw[ZB];simp[Ty.B96])
     (λj h a ha=>by refine⟨?_,by simp[ha]⟩;rw[ZB];have:=Cs (e:=Ty.A9) (sz:=3) (l:=a) (x:=t.D6[j].put l) (by unfold J9;omega);simp[h,J3 h,Ty.M5,Ty.ag,ih _ (z0q h) (Ty.M8 ht (z0q h)),this,O8 (show j<9223372036854775807 by omega)]) [] rfl
    have e:∀(m:List Ty)(a:List Ty),m.foldl (λa k=>a++[k.put l]) a=a++m.map (Ty.put l):=by
     intro m;induction m with
     |nil=>intro a;simp
     |cons x m ih=>intro a;simp[ih]
    rw[e]at loop;simp only[zfq,znq]at loop;have hn0:t.n=0:=by have:=(Ty.CS.1 ht).2.2.2.1;omega
    simp[h6,hn0,loop]
def B44(h:vs.length=ts.length)(hl:vs.length<=J9):C9.p qQ [K6 vs,.list 3 (ts.map Ty.A9)]=some (P7 (vs.zip ts)):=by
 have hb:=big hl;refine(A0A _ _).trans ?_;rw[A2r];have loop:∀(m i:Nat),i+m=vs.length->SN C9 (K6 vs) (.list 3 (ts.map Ty.A9)) (P7 ((vs.take i).zip (ts.take i))) (iI i)=some (P7 (vs.zip ts)):=by
  intro m;induction m with
  |zero=>
    intro i hi;have:¬i<vs.length:=by omega
    rw[z8q (by omega),z8q (by omega),XV];simp[this]
  |succ m ihm=>
    intro i hi;have h1:i<vs.length:=by omega
    have h2:i<ts.length:=by omega
    have nx:=ihm (i+1) (by omega);rw[B16 _ _ _ h1 h2]at nx;push_cast at nx;have hap:AP 4 (P7 ((vs.take i).zip (ts.take i))) (.list 4 [.agg [iI vs[i],iI ts[i].A8,iI ts[i].n,.list 3 (ts[i].D6.map Ty.A9)]])=some (P7 ((vs.take i).zip (ts.take i)++[(vs[i],ts[i])])) :=Cs (e:=Y1) (sz:=4) (l:=(vs.take i).zip (ts.take i)) (x:=(vs[i],ts[i])) (by rw[zAq,zGq,zGq];omega)
    rw[XV];simp[h1,Bg h1,J3 h2,hap,O8 (show i<9223372036854775807 by omega),nx]
 have:=loop vs.length 0 (by omega);simp only[y9q,ygq,zjq,zlq,zbq]at this;exact this
theorem cd1(e:Int):Y5 [((iI e:DV),H6.val)] 0=some (iI e):=rfl
theorem e4:Hl 4:=.inl rfl
def e6:Hl 6:=.inr (.inl rfl)
variable {t:Tm}
def Tm.C1Q{n:Nat}(h:t.size<=n){k:Tm}(hk:k∈t.D6):k.size<=n:=by have:=Tm.Ec hk;omega
def B7I(l:List Tm):∀a:Nat,l.foldl (λa k=>a+k.size) a=a+(l.map Tm.size).sum:=by
 induction l with
 |nil=>intro a;simp
 |cons x l ih=>intro a;simp[ih];omega
def B6i(t:Tm):t.size<=J9->C9.p gT [t.A9]=some (iI t.size):=by
 induction t using Tm.ind with
 |h t ih=>
   intro ht;have hb:=big (zZq (z5q t.vU) ht);refine(B3P _).trans ?_;rw[B5E];simp only[I8,F4];have loop:=HZ (l:=t.D6) (P:=λi (a:Nat)=>Ur C9 (iI a) (iI i) t.A9) (g:=λa k=>a+k.size) (fin:=λa=>some (iI a))
    (I:=λi a=>a+((t.D6.drop i).map Tm.size).sum<=J9)
    (λa _=>by rw[uD];simp)
    (λi h a ha=>by rw[z2q h,z9q,zvq]at ha;have:=big ha;refine⟨?_,by omega⟩;rw[uD];simp[h,J3 h,Tm.M5,Tm.ag,ih _ (z0q h) (Tm.C1Q ht (z0q h)),O8 (show i<9223372036854775807 by omega)];rw[GJ (by omega) (by omega)];simp) 1 (by have:=Tm.size_eq t;simpa using(by omega:1+(t.D6.map Tm.size).sum<=J9))
   rw[B7I,<- Tm.size_eq]at loop;exact loop
inductive Tm.kQ:Tm->Prop where
 |mk (t:Tm):t.B2Y->t.D6.length<J9->(∀k∈t.D6,k.kQ)->t.kQ
def Tm.kQ.one(h:t.kQ):t.B2Y:=by cases h;assumption
def Tm.kQ.len(h:t.kQ):t.D6.length<J9:=by cases h;assumption
def Tm.kQ.kid{k:Tm}(h:t.kQ)(hk:k∈t.D6):k.kQ:=by cases h with | mk _ _ _ g=>exact g k hk
def Tm.fit.toS:t.fit->t.kQ:=by
 induction t using Tm.ind with
 |h t ih=>exact λh=>.mk t h.one.toS h.one.D6 λk hk=>ih k hk (h.kid hk)
def B47(a:Tm):a.kQ->∀b:Tm,C9.p WW [a.A9,b.A9]=some (.bool (decide (a=b))):=by
 induction a using Tm.ind with
 |h a ih=>
   intro ha b;have hk:=big (z5q ha.len);refine(B3O _ _).trans ?_;rw[B5D];have e:decide (a=b)=(a.aM b&&decide (a.D6=b.D6)):=by rw[zyq];simp only[F5,zrq];exact Tm.B9E.symm
   simp[Tm.M5,Tm.ag,A31 a ha.one b,e];cases h1:a.aM b
   ·simp
   ·by_cases h5:a.D6.length=b.D6.length
    ·have loop:=WL (l:=a.D6) (m:=b.D6) h5 (P:=λi=>Uq C9 (iI i) a.A9 b.A9)
      (by rw[uC];simp[h5])
      (λi h=>by
        have h':i<b.D6.length:=by omega
        rw[uC];simp[h,h',J3 h,J3 h',Tm.M5,Tm.ag,ih _ (z0q h) (ha.kid (z0q h)),O8 (show i<9223372036854775807 by omega)])
     simp[h5,loop]
    ·have:a.D6≠b.D6:=λh=>h5 (by rw[h]);simp[zuq,h5,this]
def B6h(a:Tm)(h:a.fit)(b:Tm):C9.p WW [a.A9,b.A9]=some (.bool (decide (a=b))):=B47 a h.toS b
def bC{a b:List ByteArray}(h:a.length+b.length<=J9):AP 1 (N7 a) (N7 b)=some (N7 (a++b)):=by show AP 1 (.list 1 (a.map DV.str)) (.list 1 (b.map DV.str))=_;rw[Qu (by simpa using h)];simp[N7]
theorem IX:(.list 1 []:DV)=N7 []:=rfl
theorem MV:(.list 1 [.str s]:DV)=N7 [s]:=rfl
theorem A5y(t:ByteArray):(.list 1 [.str s,.str t]:DV)=N7 [s,t]:=rfl
def A7o(t:E8):∀(l:List ByteArray)(sg:List H7),l.length+t.size<=J9->C9.r QC [(t.A9,.val),(N7 l,.own)] sg=some ([N7 (t.Dp l)],sg):=by
 induction t using E8.ind with
 |h t ih=>
   intro l sg hl;have hb:=E8.Cx _ (E8.FE (show t.size<=J9 by omega));have hB:=big hl;refine(fu _ _ _).trans ?_;have loop:∀l:List ByteArray,l.length+(t.D6.map E8.size).sum<=J9->Fg C9 (N7 l) (.list 7 (t.D6.map E8.A9)) (iI t.D6.length) (iI 0) sg=some ([N7 (t.D6.foldl (λl k=>k.Dp l) l)],sg) :=
    HZ (l:=t.D6) (P:=λi (a:List ByteArray)=>Fg C9 (N7 a) (.list 7 (t.D6.map E8.A9)) (iI t.D6.length) (iI i) sg) (g:=λa k=>k.Dp a) (fin:=λa=>some ([N7 a],sg))
     (I:=λi a=>a.length+((t.D6.drop i).map E8.size).sum<=J9)
     (λa _=>by rw[Pt];simp)
     (λi h a ha=>by rw[z2q h,z9q,zvq]at ha;have h1:=E8.Pn t.D6[i] a;refine⟨?_,by omega⟩;rw[Pt];simp[h,J3 h,E8.M5,E8.ag,ih _ (z0q h) a sg (by omega),O8 (show i<9223372036854775807 by omega)])
   have Ak:=E8.size_eq t;rw[kL,E8.Od];simp;by_cases h6:t.A8=2
   ·simp[h6];rw[show N7 l=.list 1 (l.map λn=>.str n)from rfl,Qu (by simp;omega)];have:=loop (l++[t.name]) (by simp;omega);simpa[N7]using this
   ·simp[h6,loop l (by omega)]
variable (t:Tm)
def A1d(ht:t.Pv)(i:Nat)(hi:t.A8=14->i<=t.H8.length):C9.p Wh [t.A9,iI i]=some (N7 (t.binds i)):=by
 have hp:=big (z5q ht.H8);refine(uz _ _).trans ?_;have p5:¬(t.A8=9\/(t.A8=11/\i=1)\/(t.A8=12/\i=1))->KQ C9 (iI i) t.A9=some (N7 (t.binds i)):=by
  intro h;rw[oK];unfold Tm.binds;rw[C8 h];by_cases h1:t.A8=12
  ·simp[h1,A5y]
  ·by_cases h2:t.A8=14
   ·by_cases h3:0<i
    ·have P8:i-1<t.H8.length:=by have:=hi h2;omega
     have e1:D7 .sub (iI (i:Int)) (iI 1)=some (iI ((i-1:Nat):Int)):=by rw[FX,X7 (by omega) (by have:=hi h2;omega)];congr 3;omega
     have nm:=A7o t.H8[i-1] [] [] (by have:=(ht.pat _ (z0q P8)).size;simpa using this);rw[<- IX]at nm;simp[h1,h2,h3,e1,J3 P8,E8.M5,E8.ag,nm,z4q P8,E8.names]
    ·simp[h1,h2,h3,IX]
   ·simp[h1,h2,IX]
 have one:t.A8=9\/(t.A8=11/\i=1)\/(t.A8=12/\i=1)->t.binds i=[t.name]:=λh=>by unfold Tm.binds;rw[D5 h]
 rw[A0d];have i1:decide ((i:Int)=1)=decide (i=1):=by rw[decide_eq_decide];omega
 by_cases h9:t.A8=9
 ·simp[h9,one (.inl h9),MV]
 ·by_cases UM:t.A8=11
  ·by_cases h1:i=1
   ·have o1:=one (.inr (.inl ⟨UM,h1⟩));subst h1;simp[UM,o1,MV]
   ·have:=p5 (by rintro(h | h | h);exact h9 h;exact h1 h.2;exact h1 h.2);simp[UM,h1,i1,this]
  ·by_cases UN:t.A8=12
   ·by_cases h1:i=1
    ·have o1:=one (.inr (.inr ⟨UN,h1⟩));subst h1;simp[UN,o1,MV]
    ·have:=p5 (by rintro(h | h | h);exact h9 h;exact h1 h.2;exact h1 h.2);simp[UN,h1,i1,this]
   ·have:=p5 (by rintro(h | h | h);exact h9 h;exact UM h.1;exact UN h.1);simp[h9,UM,UN,this]
def nD(ht:t.Pv)(i:Nat)(hi:t.A8=14->i<=t.H8.length):C9.p T_ [t.A9,iI i]=some (N7 (t.binds i)):=by
 have hp:=big (z5q ht.H8);refine(A0B _ _).trans ?_;have p5:¬(t.A8=9\/(t.A8=11/\i=1)\/(t.A8=12/\i=1))->Lb C9 (iI i) t.A9=some (N7 (t.binds i)):=by
  intro h;rw[uB];unfold Tm.binds;rw[C8 h];by_cases h1:t.A8=12
  ·simp[h1,A5y]
  ·by_cases h2:t.A8=14
   ·by_cases h3:0<i
    ·have P8:i-1<t.H8.length:=by have:=hi h2;omega
     have e1:D7 .sub (iI (i:Int)) (iI 1)=some (iI ((i-1:Nat):Int)):=by rw[FX,X7 (by omega) (by have:=hi h2;omega)];congr 3;omega
     have nm:=nC t.H8[i-1] (ht.pat _ (z0q P8)).size;simp[h1,h2,h3,e1,J3 P8,E8.M5,E8.ag,nm,z4q P8]
    ·simp[h1,h2,h3,IX]
   ·simp[h1,h2,IX]
 have one:t.A8=9\/(t.A8=11/\i=1)\/(t.A8=12/\i=1)->t.binds i=[t.name]:=λh=>by unfold Tm.binds;rw[D5 h]
 rw[A2s];have i1:decide ((i:Int)=1)=decide (i=1):=by rw[decide_eq_decide];omega
 by_cases h9:t.A8=9
 ·simp[h9,one (.inl h9),MV]
 ·by_cases UM:t.A8=11
  ·by_cases h1:i=1
   ·have o1:=one (.inr (.inl ⟨UM,h1⟩));subst h1;simp[UM,o1,MV]
   ·have:=p5 (by rintro(h | h | h);exact h9 h;exact h1 h.2;exact h1 h.2);simp[UM,h1,i1,this]
  ·by_cases UN:t.A8=12
   ·by_cases h1:i=1
    ·have o1:=one (.inr (.inr ⟨UN,h1⟩));subst h1;simp[UN,o1,MV]
    ·have:=p5 (by rintro(h | h | h);exact h9 h;exact h1 h.2;exact h1 h.2);simp[UN,h1,i1,this]
   ·have:=p5 (by rintro(h | h | h);exact h9 h;exact UM h.1;exact UN h.1);simp[h9,UM,UN,this]
variable (l:List ByteArray)
def B6e(s:ByteArray)(hl:l.length+1<=J9):C9.p wS [N7 l,.str s]=some (N7 (rise l s)):=by
 have hb:=big hl;refine(A2V _ _).trans ?_;rw[A5M];have p6:∀i,i<=l.length->Ww C9 (N7 l) (.str s) (iI (i:Int))=some (N7 (l.take i++s::l.drop i)):=by
  intro i hi;have e1:Cz 1 (N7 l) none (some (iI (i:Int)))=some (N7 (l.take i)):=xA hi 1;have e2:Cz 1 (N7 l) (some (iI (i:Int))) none=some (N7 (l.drop i)):=by simp[Cz,bnd,hi,N7,List.map_drop,z8q]
  rw[zi];simp only[e1,e2,F8,IX,MV,iA,F4];rw[bC (by simp;omega)];simp only[F8];rw[bC (by simp;omega)];simp only[F8];rw[bC (by simp;omega)];simp
 have p4:∀i,i<=l.length->(∀(h:i<l.length),yZ l[i] s=false)->Wv C9 (N7 l) (.str s) (iI (i:Int))=some (N7 (l.take i++rise (l.drop i) s)):=by
  intro i hi hn;rw[zh];by_cases h:i<l.length
  ·have h0:=hn h;rw[z2q h];simp only[bD,F8,J6,zhq,h,L8,J5,H5,L_ h,iB,F4,Lx,E9,F5,rise,h0,z1q,F9]
   by_cases he:l[i]=s
   ·simp only[he,H5]
    congr 2;rw[<- he,<- z2q h,List.take_append_drop]
   ·simp only[he,F9]
    rw[p6 i hi,z2q h]
  ·have e:i=l.length:=by omega
   subst e;simp only[bD,F8,J6,zcq,R4,J5,z1q,F9,zwq,rise];rw[p6 _ (zeq _),zwq]
 have loop:∀(n i:Nat),i+n=l.length->Ul C9 (N7 l) (.str s) (iI (i:Int))=some (N7 (l.take i++rise (l.drop i) s)):=by
  intro n;induction n with
  |zero=>
    intro i hi;have e:i=l.length:=by omega
    have:=p4 i (by omega) (λh=>by omega);subst e;rw[Yy];simp only[bD,F8,J6,zcq,R4,J5,z1q,F9];exact this
  |succ n ih=>
    intro i hi;have h:i<l.length:=by omega
    rw[Yy];simp only[bD,F8,J6,zhq,h,L8,J5,H5,L_ h,iB,F4,B9o,E9];cases h0:yZ l[i] s
    ·exact p4 i (by omega) (λ_=>h0)
    ·simp only[H5]
     rw[O8 (by omega)];simp only[F8];rw[ih (i+1) (by omega)];rw[z2q h];simp only[rise,h0,H5];rw[z6q h,zxq];rfl
 have:=loop l.length 0 (by omega);simpa using this
def B6m:t.fit->t.right=true->∀(B l:List ByteArray),B.length+2 * t.Q3<=J9->l.length+t.size<=J9->
 C9.p gV [t.A9,N7 B,N7 l]=some (N7 ((t.fr B).foldl rise l)):=by
 induction t using Tm.ind with
 |h t ih=>
   intro ft rt B l hB hl;have hk:=big (z5q ft.one.D6);have loop:∀(n j:Nat)(l:List ByteArray),j+n=t.D6.length->l.length+((t.D6.drop j).map Tm.size).sum<=J9->
    Uw C9 (N7 B) (N7 l) (iI (j:Int)) t.A9=some (N7 ((Tm.o_ t.binds j (t.D6.drop j) B).foldl rise l)):=by
    intro n;induction n with
    |zero=>
      intro j l hj _;have e:j=t.D6.length:=by omega
      subst e;rw[ZE,zwq,Tm.A4p];simp
    |succ n ihn=>
      intro j l hj hl;have h:j<t.D6.length:=by omega
      have hm:=t.ak j;have Xz:=JN (f:=Tm.Q3) (z0q h);rw[z2q h,z9q,zvq]at hl;have pG:=nD t ft.one j (λh14=>by have:=Tm.A3C rt h14;omega);have C8B:=ih _ (z0q h) (ft.kid (z0q h)) (Tm.M8 rt (z0q h)) (B++t.binds j) l (by simp;omega) (by omega);have Bl:((t.D6[j].fr (B++t.binds j)).foldl rise l).length<=l.length+t.D6[j].size:=by have h1:=B1L l (t.D6[j].fr (B++t.binds j));have h2:=t.D6[j].A80 (B++t.binds j);omega
      have nx:=ihn (j+1) ((t.D6[j].fr (B++t.binds j)).foldl rise l) (by omega) (by omega);rw[ZE];simp only[Tm.CK,N8,z3q,F8,J6,zhq,h,L8,E9,H5,J3 h,Tm.M5,Tm.ag,IX];rw[bC (by simp;omega)];simp only[F8,znq];have ee:(DV.agg [A7 0 t.A9,A7 1 t.A9,A7 2 t.A9,A7 3 t.A9,A7 4 t.A9,A7 5 t.A9,A7 6 t.A9,A7 7 t.A9,A7 8 t.A9,A7 9 t.A9,A7 10 t.A9,A7 11 t.A9,A7 12 t.A9,A7 13 t.A9,A7 14 t.A9,A7 15 t.A9,A7 16 t.A9,A7 17 t.A9,A7 18 t.A9,A7 19 t.A9])=t.A9:=by simp[Tm.M5,Tm.ag]
      have ek:(DV.agg [A7 0 t.D6[j].A9,A7 1 t.D6[j].A9,A7 2 t.D6[j].A9,A7 3 t.D6[j].A9,A7 4 t.D6[j].A9,A7 5 t.D6[j].A9,A7 6 t.D6[j].A9,A7 7 t.D6[j].A9,A7 8 t.D6[j].A9,A7 9 t.D6[j].A9,A7 10 t.D6[j].A9,A7 11 t.D6[j].A9,A7 12 t.D6[j].A9,A7 13 t.D6[j].A9,A7 14 t.D6[j].A9,A7 15 t.D6[j].A9,A7 16 t.D6[j].A9,A7 17 t.D6[j].A9,A7 18 t.D6[j].A9,A7 19 t.D6[j].A9])=t.D6[j].A9:=by simp[Tm.M5,Tm.ag]
      simp only[Tm.CK]at ee ek
      try rw[ee]
      try rw[ek]
      rw[pG];simp only[F8];rw[bC (by omega)];simp only[F8,C8B];rw[O8 (by omega)];simp only[F8,nx];rw[z2q h,Tm.xc,List.foldl_append]
   have Ak:=t.size_eq;have p3:∀l:List ByteArray,l.length+(t.D6.map Tm.size).sum<=J9->Qn C9 (N7 B) (N7 l) t.A9=some (N7 ((Tm.o_ t.binds 0 t.D6 B).foldl rise l)):=by intro l hl;rw[zu];have:=loop t.D6.length 0 l (by omega) (by simpa using hl);simpa using this
   refine(A23 _ _ _).trans ?_;rw[A5T,Tm.A8Z];have hh:=iO B (by omega) t.name;have hr:=B6e l t.name (by omega);have p3a:=p3 l (by omega);have p3b:=p3 (rise l t.name) (by have:=B4D l t.name;omega);by_cases h1:t.A8=1
   ·cases h2:Vi B t.name
    ·have WI:(B.any λx=>decide (x=t.name))=false:=h2;simp[h1,hh,h2,WI,hr,p3b]
    ·have WI:(B.any λx=>decide (x=t.name))=true:=h2;simp only[I8,F4,Tm.AV,Tm.EU,P6,F8,J5,h1,L8,H5,hh,h2,P9,zgq,E9,z1q,F9,p3a,WI,and_false,reduceCtorEq,znq]
   ·simp[h1,p3a]
def rX(ft:t.fit)(rt:t.right=true)(hm:2 * t.Q3<=J9):C9.p gQ [t.A9]=some (N7 t.free):=by refine(A2Z _).trans ?_;rw[A5P];have hs:=t.Rm;have:=B6m t ft rt [] [] (by simpa using hm) (by simp;omega);rw[<- IX]at this;simp[Tm.M5,Tm.ag,this,Tm.free]
variable (L:List ByteArray)
def cn(s:ByteArray):Int:=((L.countP λx=>decide (x=s)):Nat)
def B9k(s:ByteArray):0<=cn L s:=by unfold cn;omega
def C2N(s:ByteArray):cn L s<=L.length:=by unfold cn;have:=List.countP_le_length (p:=λx=>decide (x=s)) (l:=L);omega
def B6E(s:ByteArray):decide (cn L s=0)=!(L.any λx=>decide (x=s)):=by unfold cn;rw[zyq];simp only[F5,zaq,List.any_eq_false,F5];rw[show((L.countP λx=>decide (x=s):Nat):Int)=0↔(L.countP λx=>decide (x=s))=0 by omega,List.countP_eq_zero];simp
def C5j{L:List ByteArray}(h:N_ es (cn L))(s:ByteArray):N_ (BJ es (.str s) (iI (cn L s+1))) (cn (L++[s])):=by
 intro v;rw[h.set s (cn L s+1) v];congr 1;unfold cn;by_cases e:s=v
 ·subst e;simp[zKq]
 ·simp[zKq,e]
def C5i{A D:List ByteArray}{s:ByteArray}(h:N_ es (cn (A++s::D))):N_ (BJ es (.str s) (iI (cn (A++s::D) s-1))) (cn (A++D)):=by
 intro v;rw[h.set s (cn (A++s::D) s-1) v];congr 1;unfold cn;by_cases e:s=v
 ·subst e;simp[zKq];omega
 ·simp[zKq,e]
def Yb(O B:List (DV×DV)):List H7:=[.map true O,.map true B]
def B5f:t.fit->t.right=true->∀(O B:List (DV×DV))(P:ByteArray->Prop)(L:List ByteArray),Dn O P->N_ B (cn L)->L.length+2 * t.Q3<=J9->
 ∃O' B',C9.r Pd [(t.A9,.val),(.undef,.map 1),(.undef,.map 0)] (Yb O B)=some ([],Yb O' B')/\Dn O' (λs=>P s\/s∈t.fr L)/\N_ B' (cn L):=by
 induction t using Tm.ind with
 |h t ih=>
   intro ft rt O B P L hO hB hL;have hk:=big (z5q ft.one.D6);have hm0:=t.ZW;have l14:∀(l:List ByteArray)(i:DV)(k:Nat),L.length+l.length<=J9->∀(n j:Nat)(O B:List (DV×DV)),j+n=l.length->N_ B (cn (L++l.drop j))->
    ∃B',JF C9 1 0 (.list 20 (t.D6.map Tm.A9)) (iI t.D6.length) i (N7 l) (iI l.length) (iI (j:Int)) t.A9 (Yb O B) =
      (ob (D7 .add i (iI 1)) λd=>NJ C9 1 0 (.list 20 (t.D6.map Tm.A9)) (iI t.D6.length) d t.A9 (Yb O B'))/\N_ B' (cn L):=by
    intro l i _ hl n;have hlb:=big hl;induction n with
    |zero=>
      intro j O B hj hc;have e:j=l.length:=by omega
      subst e;refine⟨B,?_,by rwa [zwq,zLq]at hc⟩;rw[VW];simp
    |succ n ihn=>
      intro j O B hj hc;have h:j<l.length:=by omega
      rw[z2q h]at hc;obtain⟨B',h1,h2⟩:=ihn (j+1) O (BJ B (.str l[j]) (iI (cn (L++l[j]::l.drop (j+1)) l[j]-1))) (by omega) (C5i hc);refine⟨B',?_,h2⟩;rw[VW];have c1:=hc l[j];have c2:=B9k (L++l[j]::l.drop (j+1)) l[j];have c3:=C2N (L++l[j]::l.drop (j+1)) l[j];have c4:(L++l[j]::l.drop (j+1)).length<=4294967296:=by simp;unfold J9 at hl;omega
      have e1:D7 .sub (iI (cn (L++l[j]::l.drop (j+1)) l[j])) (iI 1)=some (iI (cn (L++l[j]::l.drop (j+1)) l[j]-1)):=by rw[FX,X7 (by omega) (by omega)]
      simp only[J6,zhq,h,L8,F8,E9,H5,L_ h,iB,F4,bT,zqq,Yb,X0,zpq,zmq,BEq.rfl,c1,e1,O8 (show j<9223372036854775807 by omega),zVq,zBq]
      exact h1
   have l8:∀(l:List ByteArray)(i:DV)(k:Tm)(O:List (DV×DV))(Z:List (DV×DV)->Option (List DV×List H7)),L.length+l.length<=J9->(∀B,N_ B (cn (L++l))->(ob (C9.r Pd [(k.A9,.val),(.undef,.map 1),(.undef,.map 0)] (Yb O B)) λq=>JF C9 1 0 (.list 20 (t.D6.map Tm.A9)) (iI t.D6.length) i (N7 l) (iI l.length) (iI 0) t.A9 q.2)=Z B)->
    ∀(n j:Nat)(B:List (DV×DV)),j+n=l.length->N_ B (cn (L++l.take j))->
    ∃B',NK C9 1 0 (N7 l) (.list 20 (t.D6.map Tm.A9)) (iI t.D6.length) i (N7 l) (iI l.length) (iI (j:Int)) t.A9 k.A9 (Yb O B)=Z B'/\N_ B' (cn (L++l)):=by
    intro l i k O Z hl hZ n;have hlb:=big hl;induction n with
    |zero=>
      intro j B hj hc;have e:j=l.length:=by omega
      subst e;rw[zPq]at hc;refine⟨B,?_,hc⟩;rw[Xc,<- hZ B hc];simp[Tm.M5,Tm.ag]
    |succ n ihn=>
      intro j B hj hc;have h:j<l.length:=by omega
      have hc':=C5j hc l[j];rw[zxq,<- z6q h]at hc';obtain⟨B',h1,h2⟩:=ihn (j+1) (BJ B (.str l[j]) (iI (cn (L++l.take j) l[j]+1))) (by omega) hc';refine⟨B',?_,h2⟩;rw[Xc];have c1:=hc l[j];have c2:=B9k (L++l.take j) l[j];have c3:=C2N (L++l.take j) l[j];have c4:(L++l.take j).length<=4294967296:=by simp;unfold J9 at hl;omega
      simp only[J6,zhq,h,L8,F8,E9,H5,L_ h,iB,F4,bT,zqq,Yb,X0,zpq,zmq,BEq.rfl,c1,GJ (show(-9223372036854775808:Int)<=cn (L++l.take j) l[j]+1 by omega) (show cn (L++l.take j) l[j]+1<=9223372036854775807 by omega),O8 (show j<9223372036854775807 by omega),zVq,zBq]
      exact h1
   have l4:∀(n j:Nat)(O B:List (DV×DV))(P:ByteArray->Prop),j+n=t.D6.length->Dn O P->N_ B (cn L)->
    ∃O' B',NJ C9 1 0 (.list 20 (t.D6.map Tm.A9)) (iI t.D6.length) (iI (j:Int)) t.A9 (Yb O B)=some ([],Yb O' B')/\Dn O' (λs=>P s\/s∈Tm.o_ t.binds j (t.D6.drop j) L)/\N_ B' (cn L):=by
    intro n;induction n with
    |zero=>
      intro j O B P hj hO hB;have e:j=t.D6.length:=by omega
      subst e;refine⟨O,B,?_,?_,hB⟩
      ·rw[Xb];simp
      ·rw[zwq,Tm.A4p];exact hO.congr λs=>by simp
    |succ n ihn=>
      intro j O B P hj hO hB;have h:j<t.D6.length:=by omega
      have hm:=t.ak j;have Xz:=JN (f:=Tm.Q3) (z0q h);have pG:=A1d t ft.one j (λh14=>by have:=Tm.A3C rt h14;omega);have hll:L.length+(t.binds j).length<=J9:=by omega
      obtain⟨O1,k1,k2,k3,k4⟩:∃O1 B1,(NK C9 1 0 (N7 (t.binds j)) (.list 20 (t.D6.map Tm.A9)) (iI t.D6.length) (iI (j:Int)) (N7 (t.binds j)) (iI (t.binds j).length) (iI 0) t.A9 t.D6[j].A9 (Yb O B) =
       JF C9 1 0 (.list 20 (t.D6.map Tm.A9)) (iI t.D6.length) (iI (j:Int)) (N7 (t.binds j)) (iI (t.binds j).length) (iI 0) t.A9 (Yb O1 B1))/\Dn O1 (λs=>P s\/s∈t.D6[j].fr (L++t.binds j))/\N_ B1 (cn (L++t.binds j)):=by
       obtain⟨B',e1,e2⟩:=l8 (t.binds j) (iI (j:Int)) t.D6[j] O _ hll (λB _=>rfl) (t.binds j).length 0 B (by omega) (by rw[y9q,zLq];exact hB);obtain⟨O1,B1,f1,f2,f3⟩:=ih _ (z0q h) (ft.kid (z0q h)) (Tm.M8 rt (z0q h)) O B' P (L++t.binds j) hO e2 (by simp;omega);refine⟨O1,B1,?_,f2,f3⟩;simp only[zjq,zlq,zbq]at e1;rw[e1,f1];rfl
      obtain⟨B2,g1,g2⟩:=l14 (t.binds j) (iI (j:Int)) j hll (t.binds j).length 0 O1 k1 (by omega) (by rw[ziq];exact k4);obtain⟨O',B',i1,i2,i3⟩:=ihn (j+1) O1 B2 _ (by omega) k3 g2;refine⟨O',B',?_,?_,i3⟩
      ·rw[Xb];have ee:(DV.agg [A7 0 t.A9,A7 1 t.A9,A7 2 t.A9,A7 3 t.A9,A7 4 t.A9,A7 5 t.A9,A7 6 t.A9,A7 7 t.A9,A7 8 t.A9,A7 9 t.A9,A7 10 t.A9,A7 11 t.A9,A7 12 t.A9,A7 13 t.A9,A7 14 t.A9,A7 15 t.A9,A7 16 t.A9,A7 17 t.A9,A7 18 t.A9,A7 19 t.A9])=t.A9:=by simp[Tm.M5,Tm.ag]
       simp only[J6,zhq,h,L8,F8,E9,H5,J3 h,ee,pG,bD,k2];simp only[zjq,zlq,zbq]at g1;rw[g1,O8 (by omega)];exact i1
      ·refine i2.congr λs=>?_;rw[z2q h,Tm.xc,zzq,or_assoc]
   have l3:∀(O B:List (DV×DV))(P:ByteArray->Prop),Dn O P->N_ B (cn L)->∃O' B',O_ C9 1 0 t.A9 (Yb O B)=some ([],Yb O' B')/\Dn O' (λs=>P s\/s∈Tm.o_ t.binds 0 t.D6 L)/\N_ B' (cn L):=by intro O B P hO hB;obtain⟨O',B',h1,h2,h3⟩:=l4 t.D6.length 0 O B P (by omega) hO hB;refine⟨O',B',?_,by simpa using h2,h3⟩;rw[uM];simpa using h1
   by_cases h1:t.A8=1/\(L.any λx=>decide (x=t.name))=false
   ·obtain⟨cnt,C8v⟩:=hO.get t.name;obtain⟨O',B',e1,e2,e3⟩:=l3 (BJ O (.str t.name) (iI (IntKind.i64.wrap (cnt+1)))) B _ (hO.set t.name _) hB;refine⟨O',B',(d_ _ _ _ _).trans ?_,?_,e3⟩
    ·have cb:=hB t.name;have cz:=B6E L t.name;rw[h1.2,zoq]at cz;rw[kK];simp only[I8,F4,Tm.AV,Tm.EU,P6,F8,J5,h1.1,L8,H5,bT,zqq,Yb,X0,zpq,zmq,BEq.rfl,cb,cz,E9,C8v,Ag,zBq];exact e1
    ·refine e2.congr λs=>?_;rw[Tm.A8Z,D5 h1];simp only[zzq,zJq];constructor
     ·rintro((h | h) | h)
      ·exact .inr (.inl h)
      ·exact .inl h
      ·exact .inr (.inr h)
     ·rintro(h | h | h)
      ·exact .inl (.inr h)
      ·exact .inl (.inl h)
      ·exact .inr h
   ·obtain⟨O',B',e1,e2,e3⟩:=l3 O B P hO hB;refine⟨O',B',(d_ _ _ _ _).trans ?_,?_,e3⟩
    ·have cb:=hB t.name;have cz:=B6E L t.name;rw[kK];by_cases hk1:t.A8=1
     ·have:(L.any λx=>decide (x=t.name))=true:=by
       cases hh:L.any λx=>decide (x=t.name)
       ·exact absurd ⟨hk1,hh⟩ h1
       ·rfl
      rw[this,zgq]at cz;simp only[I8,F4,Tm.AV,Tm.EU,P6,F8,J5,hk1,L8,H5,bT,zqq,Yb,X0,zpq,zmq,BEq.rfl,cb,cz,E9,z1q,F9];exact e1
     ·simp only[I8,F4,Tm.AV,P6,F8,J5,hk1,R4,z1q,F9]
      exact e1
    ·refine e2.congr λs=>?_;rw[Tm.A8Z,C8 h1,znq]
def B5e(ft:t.fit)(hm:2 * t.Q3<=J9):C9.p Zv [t.A9]=some (N7 (if t.right=true then t.free else[])):=by
 refine(A0H _).trans ?_;rw[A2y];cases rt:t.right
 ·simp[Tm.M5,Tm.ag,fD t ft,rt,IX]
 ·obtain⟨O',B',h1,h2,-⟩:=B5f t ft rt [] [] _ [] Dn.nil (λv=>rfl) (by simpa using hm);have h3:Dn O' λs=>s∈t.free:=h2.congr λs=>by rw[Tm.xz];simp
  obtain⟨h4,h5⟩:=B0r h3 t.B7M;have Bl:O'.length<=J9:=by have:=t.C1y;have:=t.Rm;omega
  have h1':C9.r Pd [(t.A9,.val),(.undef,.map 1),(.undef,.map 0)] [.map true [],.map true []]=some ([],Yb O' B'):=h1;simp[Tm.M5,Tm.ag,fD t ft,rt,h1',Yb,X0,Bl,h4]
def A7n(hl:l.length<=J9)(n:ByteArray):∃k:Int,C9.p Hd [N7 l,.str n]=some (iI k)/\(0<=k↔(l.any λx=>decide (x=n))=true):=by
 have hb:=big hl;have loop:∀(m i:Nat),i+m=l.length->∃k:Int,Cr C9 (N7 l) (.str n) (iI l.length) (iI i)=some (iI k)/\(0<=k↔((l.drop i).any λx=>decide (x=n))=true):=by
  intro m;induction m with
  |zero=>
    intro i hi;refine⟨-1,?_,?_⟩
    ·have:¬i<l.length:=by omega
     rw[FB];simp[this]
    ·rw[z7q (by omega)];simp
  |succ m ih=>
    intro i hi;have h:i<l.length:=by omega
    rw[FB,z2q h];by_cases e:n=l[i]
    ·refine⟨i,by simp[h,L_ h,e],?_⟩;simp[<- e]
    ·obtain⟨k,h1,h2⟩:=ih (i+1) (by omega);push_cast at h1;refine⟨k,by simp[h,L_ h,e,O8 (show i<9223372036854775807 by omega),h1],?_⟩;rw[h2,List.any_cons];have:decide (l[i]=n)=false:=by simpa using λh'=>e h'.symm
     rw[this,ymq]
 obtain⟨k,h1,h2⟩:=loop l.length 0 (by omega);refine⟨k,(LQ _ _).trans ?_,by simpa using h2⟩;rw[MF];simpa using h1
def A1n(hl:l.length<=J9)(n:ByteArray):C9.p FV [N7 l,.str n]=some (.bool (l.any λx=>decide (x=n))):=by
 refine(Je _ _).trans ?_;rw[KD];obtain⟨k,h1,h2⟩:=A7n l hl n;simp only[h1,F8,Ki]
 congr 2;rw[zyq,<- h2];simp
theorem Tm.nI(ks:List Tm):DV.agg [iI t.A8,iI t.lo,iI t.hi,.str t.name,.str t.arg,iI t.n,.str t.s,iI t.op,iI t.label,.bool t.neg,K6 t.vars,iI t.a.A8,iI t.a.n,.list 3 (t.a.D6.map Ty.A9),iI t.b.A8,iI t.b.n,.list 3 (t.b.D6.map Ty.A9),.list 3 (t.args.map Ty.A9),.list 7 (t.H8.map E8.A9),.list 20 (ks.map Tm.A9)]=(t.V7 ks).A9:=by rw[Tm.K9];rfl
variable (S:List H7)
theorem qA(J:List H7)(z:Nat)(l:List DV):CZ (S ++ .arr z l::J) S.length=some (z,l):=by unfold CZ;rw[List.getElem?_append_right (zeq _),Nat.sub_self];rfl
def qB{S:List H7}{c:List (DV×H6)}(h:Q7 S 0=some c)(J:List H7):Q7 (S++J) 0=some c:=by have hl:=A7i h;unfold Q7 at h ⊢;rw[List.getElem?_append_left hl];exact h
theorem B67(J:List H7)(x y:H7):(S++x::J).set S.length y=S++y::J:=by rw[List.set_append_right _ _ (zeq _),Nat.sub_self];rfl
def inLoop(m n:Nat)(j:Int)(sg:List H7):Option (List DV×List H7) :=Fh C9 0 m n m n (iI n) (iI j) t.A9 sg
def C5Y(J:List H7)(cur:List Tm)(hc:cur.length=t.D6.length):
 inLoop t S.length t.D6.length t.D6.length (S ++ .arr 20 (cur.map Tm.A9)::J)=some ([(t.V7 cur).A9,.bool true],S ++ .arr 1 []::J):=by
 unfold inLoop;rw[FC];have e1:D7 .lss (iI (t.D6.length:Int)) (iI (t.D6.length:Int))=some (.bool false):=by simp
 have e2:V6 (S ++ .arr 20 (cur.map Tm.A9)::J) (.undef,.arr S.length 20 0 t.D6.length)=some (.list 20 (cur.map Tm.A9)):=by simp only[V6,qA,F8,BEq.rfl,F4,zFq,z3q,hc,zeq,H5,ziq];rw[z8q (by simp[hc])]
 simp only[e1,F8,E9,z1q,F9,X6,e2,mi,Tm.pj,I7,B67,Tm.nI];simp only[V6,F8,Tm.nI]
def A4b:Tm:=.mk 0 0 0 S9 S9 0 S9 0 0 false [] (.mk 0 0 []) (.mk 0 0 []) [] [] []
theorem iT:DV.agg ((iI 0)::(EX []))=A4b.A9:=by rw[Tm.K9];rfl
def UX(o:Option Tm):DV :=
 match o with
 |some u=>.I4 [u.A9,iI 0]
 |none=>.I4 [A4b.A9,iI 8]
def A7l:p.thin=true->∀n:Int,0<=n->n<=500->∃m:Int,C9.p R_ [p.A9,iI n]=some (iI m)/\0<=m/\m<=501/\n<=m:=by
 induction p using E8.ind with
 |h p ih=>
   intro ht n h0 h1;have hb:=p.Cx ht;have loop:∀(k j:Nat)(n:Int),j+k=p.D6.length->0<=n->n<=501->∃m:Int,Mm C9 (iI n) (iI j) p.A9=some (iI m)/\0<=m/\m<=501/\n<=m:=by
    intro k;induction k with
    |zero=>
      intro j n hj h0 h1;refine⟨n,?_,h0,h1,Int.le_refl _⟩;have:¬j<p.D6.length:=by omega
      rw[Qy];simp[this]
    |succ k ihk=>
      intro j n hj h0 h1;have BS:j<p.D6.length:=by omega
      rw[Qy];by_cases hn:n<=500
      ·obtain⟨m,a1,a2,a3,a4⟩:=ih _ (z0q BS) (E8.Fa ht (z0q BS)) n h0 hn;obtain⟨m',b1,b2,b3,b4⟩:=ihk (j+1) m (by omega) a2 a3;push_cast at b1;exact⟨m',by simp[BS,hn,J3 BS,E8.M5,E8.ag,a1,O8 (show j<9223372036854775807 by omega),b1],b2,b3,by omega⟩
      ·exact⟨n,by simp[BS,hn],h0,h1,Int.le_refl _⟩
   by_cases c1:(300:Int)<(p.s.size:Int)
   ·refine⟨501,(OY _ _).trans ?_,by omega,by omega,by omega⟩;rw[QS];simp[c1]
   by_cases c2:(300:Int)<(p.name.size:Int)
   ·refine⟨501,(OY _ _).trans ?_,by omega,by omega,by omega⟩;rw[QS];simp[c1,c2]
   obtain⟨m,a1,a2,a3,a4⟩:=loop p.D6.length 0 (n+1) (by omega) (by omega) (by omega);refine⟨m,(OY _ _).trans ?_,a2,a3,by omega⟩;rw[QS];have Ik:D7 .add (iI n) (iI 1)=some (iI (n+1)):=GJ (by omega) (by omega);simp[c1,c2,Ik];exact a1
def A3Y(ht:t.fit)(hz:t.sized)(n:Int)(h0:500<n)(h1:n<=1099511627776):∃m:Int,C9.p PY [t.A9,iI n]=some (iI m)/\500<m/\m<=n+4294967298:=by
 have hv:=big (z5q ht.one.vars);have hn:∀m:Int,n<=m->¬m<=500:=λm h=>by omega
 have l3:∀m:Int,n<=m->JE C9 (iI m) (iI 0) t.A9=some (iI m):=by intro m hm;have:=hn m hm;rw[OW];simp[this]
 have l2:∀m:Int,n<=m->JD C9 (iI m) (iI 0) t.A9=some (iI m):=by intro m hm;have:=hn m hm;rw[OV];simp[this,l3 m hm]
 have l1:∀m:Int,n<=m->NG C9 (iI m) (iI 0) t.A9=some (iI m):=by intro m hm;have:=hn m hm;rw[QU];simp[this,l2 m hm]
 have Ik:D7 .add (iI n) (iI 1)=some (iI (n+1)):=GJ (by omega) (by omega);have Sq:D7 .add (iI (n+1)) (iI (t.vars.length:Int))=some (iI (n+1+t.vars.length)):=GJ (by omega) (by omega);by_cases c1:(300:Int)<(t.s.size:Int)
 ·refine⟨501,(Bt _ _).trans ?_,by omega,by omega⟩;rw[CV];simp[c1,Ik,Sq]
 by_cases c2:(300:Int)<(t.name.size:Int)
 ·refine⟨501,(Bt _ _).trans ?_,by omega,by omega⟩;rw[CV];simp[c1,c2,Ik,Sq]
 by_cases c3:(300:Int)<(t.arg.size:Int)
 ·refine⟨501,(Bt _ _).trans ?_,by omega,by omega⟩;rw[CV];simp[c1,c2,c3,Ik,Sq]
 obtain⟨b1,KF⟩:=A3X _ hz.a;obtain⟨b2,TU⟩:=A3X _ hz.b;cases b1
 ·refine⟨501,(Bt _ _).trans ?_,by omega,by omega⟩;rw[CV];simp[c1,c2,c3,Ik,Sq,Ty.M5,Ty.ag,KF]
 cases b2
 ·refine⟨501,(Bt _ _).trans ?_,by omega,by omega⟩;rw[CV];simp[c1,c2,c3,Ik,Sq,Ty.M5,Ty.ag,KF,TU]
 refine⟨n+1+t.vars.length,(Bt _ _).trans ?_,by omega,by omega⟩;rw[CV];simp[c1,c2,c3,Ik,Sq,Ty.M5,Ty.ag,KF,TU];exact l1 _ (by omega)
def B6b(t:Ty):C9.p wQ [t.A9]=some (.bool t.none):=by refine(A2Q _).trans ?_;rw[A5H];simp[Ty.none];by_cases h1:t.A8=0<;>by_cases h2:t.n=0<;>simp[h1,h2]
def B5b:C9.p PZ [.bool b]=some (iI (if b=true then 1 else 0)):=by refine(dw _).trans ?_;rw[kJ];cases b<;>simp
def opN(op a b:Int):Option Int :=
 if op=1 then some (IntKind.i64.wrap (a+b))else if op=2 then some (IntKind.i64.wrap (a-b))else if op=3 then some (IntKind.i64.wrap (a * b))
 else if op=4 then(if b=0 then none else some (IntKind.i64.wrap (a.tdiv b)))else if op=5 then some (if a<b then 1 else 0)else some (if a=b then 1 else 0)
def C0u(op a b:Int):C9.p A6N [iI op,iI a,iI b]=some (match opN op a b with | some n=>.I4 [iI n,.bool true] | none=>.I4 [iI 0,.bool false]):=by
 have qu:∀x y:Int,y≠0->D7 .quo (iI x) (iI y)=some (iI (IntKind.i64.wrap (x.tdiv y))):=λx y h=>by show(if y=0 then none else some (DV.int .i64 (IntKind.i64.wrap (x.tdiv y))))=_;rw[C8 h]
 have mu:∀x y:Int,D7 .mul (iI x) (iI y)=some (iI (IntKind.i64.wrap (x * y))):=λx y=>rfl;refine(A8P _ _ _).trans ?_;rw[B1a];unfold opN;simp only[P6,J6,Ag,FX,mu,F8,E9,B5b]
 by_cases c1:op=1
 ·simp[c1]
 by_cases c2:op=2
 ·simp[c2]
 by_cases c3:op=3
 ·simp[c3]
 by_cases c4:op=4
 ·by_cases z:b=0
  ·simp[c4,z]
  ·by_cases m:b=-1
   ·subst m;simp[c4,Int.tdiv_neg]
   ·simp[c4,z,m,qu]
 by_cases c5:op=5
 ·simp[c5]
 simp[c1,c2,c3,c4,c5]
theorem B07(b:Int×Ty):DV.agg [A7 0 (Y1 b),A7 1 (Y1 b),A7 2 (Y1 b),A7 3 (Y1 b)]=Y1 b:=rfl
theorem A2a(b:Int×Ty):A7 0 (Y1 b)=.int .i64 b.1:=rfl
variable (x:List (DV×H6))(l:Es)
def Di:List H7:=[.box x,.arr 4 (l.map Y1)]
def B7a(vs:List Int)(hx:Y5 x 10=some (K6 vs))(hv:vs.length<=J9)(b:Int×Ty)(cur:Es):
 C9.r Dw [(Y1 b,.val),(.undef,.ptr 0 0)] (Di x cur)=some ([.bool (decide (b.1∈vs))],Di x cur):=by
 refine(bJ _ _ _).trans ?_;rw[fV];have e0:Q7 (Di x cur) 0=some x:=rfl;have e1:E5 4 (Y1 b)=true:=rfl;simp only[e0,e1,F4,F8,hx,A2a,bz vs hv]
def sV{j n:Nat}(h:j<n):Cf 0 n (iI (j:Int))=some j:=by show(if (0:Int)<=(j:Int)/\(j:Int)<(n:Int)then some (0+(j:Int).toNat)else none)=some j;rw[D5 ⟨by omega,by omega⟩];simp
def B4W(vs:List Int)(hx:Y5 x 10=some (K6 vs))(hv:vs.length<=J9)(l:Es)(hl:l.length<=J9):
 ∃j:Nat,(∀i (h:i<l.length),i<j->l[i].1∉vs)/\((j=l.length/\C9.r Y3 [(.undef,.arr 1 4 0 l.length),(.undef,.fn Dw [(0,0)])] (Di x l)=some ([iI (-1)],Di x l)) \/(j<l.length/\(∀h:j<l.length,l[j].1∈vs)/\C9.r Y3 [(.undef,.arr 1 4 0 l.length),(.undef,.fn Dw [(0,0)])] (Di x l)=some ([iI (j:Int)],Di x l))):=by
 have hb:=big hl;have loop:∀(n i:Nat),i+n=l.length->(∀a (h:a<l.length),a<i->l[a].1∉vs)->∃j:Nat,(∀a (h:a<l.length),a<j->l[a].1∉vs) /\
  ((j=l.length/\T9 C9 1 0 l.length 0 (iI (l.length:Int)) (iI (i:Int)) (Di x l)=some ([iI (-1)],Di x l)) \/
  (j<l.length/\(∀h:j<l.length,l[j].1∈vs)/\T9 C9 1 0 l.length 0 (iI (l.length:Int)) (iI (i:Int)) (Di x l)=some ([iI (j:Int)],Di x l))):=by
  intro n;induction n with
  |zero=>
    intro i hi ha;have e:i=l.length:=by omega
    subst e;refine⟨l.length,ha,.inl ⟨rfl,?_⟩⟩;rw[Cb];simp only[J6,zcq,R4,F8,E9,z1q,F9]
  |succ n ih=>
    intro i hi ha;have h:i<l.length:=by omega
    have s1:CZ (Di x l) 1=some (4,l.map Y1):=rfl;have g1:(l.map Y1)[i]?=some (Y1 l[i]):=by rw[ztq,z4q h];rfl
    have e1:D7 .add (iI (i:Int)) (iI 1)=some (iI ((i+1:Nat):Int)):=O8 (show i<9223372036854775807 by omega);have step:∀Z,T9 C9 1 0 l.length 0 (iI (l.length:Int)) (iI (i:Int)) (Di x l)=Z↔(if l[i].1∈vs then some ([iI (i:Int)],Di x l)else T9 C9 1 0 l.length 0 (iI (l.length:Int)) (iI ((i+1:Nat):Int)) (Di x l))=Z:=by intro Z;rw[Cb C9 1 0 l.length 0 (iI (l.length:Int)) (iI (i:Int))];simp only[J6,zhq,h,L8,F8,E9,H5,sV h,s1,g1,BEq.rfl,F4,B07,B7a x vs hx hv,zsq,e1,F5]
    by_cases hm:l[i].1∈vs
    ·refine⟨i,ha,.inr ⟨h,λ_=>hm,?_⟩⟩;rw[step,D5 hm]
    ·obtain⟨j,h1,h2⟩:=ih (i+1) (by omega) λa h vN=>by
      by_cases e:a=i
      ·subst e;exact hm
      ·exact ha a h (by omega)
     refine⟨j,h1,?_⟩;simp only[step,C8 hm];exact h2
 obtain⟨j,h1,h2⟩:=loop l.length 0 (by omega) (λa h ha=>by omega);refine⟨j,h1,?_⟩;have c:∀{q:List DV×List H7},T9 C9 1 0 l.length 0 (iI (l.length:Int)) (iI 0) (Di x l)=some q->C9.r Y3 [(.undef,.arr 1 4 0 l.length),(.undef,.fn Dw [(0,0)])] (Di x l)=some q:=λh=>by refine OQ 1 0 l.length 0 _ ?_;rw[Hr];exact h
 rcases h2 with⟨a,b⟩ | ⟨a,b,d⟩
 ·exact .inl ⟨a,c b⟩
 ·exact .inr ⟨a,b,c d⟩
def filter_all{l:Es}{vs:List Int}(h:∀i (h:i<l.length),l[i].1∉vs):X8 l vs=l:=by unfold X8;rw[List.filter_eq_self];intro b hb;obtain⟨i,hi,rfl⟩:=List.mem_iff_getElem.1 hb;simp[h i hi]
def B2z(vs:List Int)(hx:Y5 x 10=some (K6 vs))(hv:vs.length<=J9)(l:Es)(hl:l.length<=J9):
 ∃sg:List H7,C9.r Bd [(.undef,.arr 1 4 0 l.length),(.undef,.fn Dw [(0,0)])] (Di x l)=some ([P7 (X8 l vs)],sg):=by
 have hb:=big hl;obtain⟨j0,hj1,hj2⟩:=B4W x vs hx hv l hl;have C3g:∀(cur:Es)(n:Nat),n<=cur.length->V6 (Di x cur) (.undef,.arr 1 4 0 n)=some (P7 (cur.take n)):=by intro cur n hn;have:CZ (Di x cur) 1=some (4,cur.map Y1):=rfl;simp only[V6,this,F8,BEq.rfl,F4,zFq,z3q,hn,H5,ziq,P7,yeq]
 have kept:∀j (h:j<l.length),X8 (l.take (j+1)) vs=if l[j].1∈vs then X8 (l.take j) vs else X8 (l.take j) vs++[l[j]]:=by
  intro j h;unfold X8;rw[z6q h,List.filter_append];by_cases hm:l[j].1∈vs
  ·simp[hm]
  ·simp[hm]
 rcases hj2 with⟨hj,hI⟩ | ⟨hj,hm,hI⟩
 ·-- none goes
  refine⟨(Di x l).set 1 (.arr 1 []),GL 1 0 l.length 0 _ ?_⟩;rw[C_];rw[filter_all λi h=>hj1 i h (by omega)];have e:D7 .eql (iI (-1)) (iI (-1))=some (.bool true):=rfl;have sl:=C3g l l.length (zeq _);rw[zPq]at sl;simp only[hI,F8,zsq,e,E9,H5,sl,mi]
 ·have loop:∀(n j i:Nat)(cur:Es),j+n=l.length->i<j->cur.length=l.length->cur.take i=X8 (l.take j) vs->cur.drop j=l.drop j->
   ∃sg,Y9 C9 1 0 l.length 0 (iI (i:Int)) (iI (j:Int)) (Di x cur)=some ([P7 (X8 l vs)],sg):=by
   intro n;induction n with
   |zero=>
     intro j i cur hn PM hc ht hd;have e:j=l.length:=by omega
     subst e;have b1:bnd 0 (some (iI (i:Int)))=some i:=by show(if (0:Int)<=(i:Int)then some (i:Int).toNat else none)=some i;rw[D5 (by omega)];simp
     have b2:bnd l.length (some (iI (i:Int)))=some i:=by show(if (0:Int)<=(i:Int)then some (i:Int).toNat else none)=some i;rw[D5 (by omega)];simp
     have s1:CZ (Di x cur) 1=some (4,cur.map Y1):=rfl;have s2:∀n:Nat,(Di x cur).set 1 (.arr 4 ((cur.map Y1).take n))=Di x (cur.take n):=λn=>by rw[<- yeq];rfl
     have c1:i+(l.length-i)<=(cur.map Y1).length:=by rw[z3q];omega
     refine⟨[.box x,.arr 1 []],?_⟩;rw[CW];simp only[J6,zcq,R4,F8,E9,z1q,F9,b1,b2,show i<=l.length/\l.length<=l.length from⟨by omega,zeq _⟩,and_self,H5,s1,BEq.rfl,zCq,zqq,c1,L8,F4,zMq,show i<=l.length by omega,s2,Nat.add_zero,Nat.sub_zero,zFq]
     have sl:=C3g (cur.take i) i (by rw[zGq];omega);rw[List.take_take,Nat.min_self,ht,zPq]at sl;rw[ht];simp only[zPq,sl,mi,F8];rfl
   |succ n ih=>
     intro j i cur hn PM hc ht hd;have h:j<l.length:=by omega
     have hcj:j<cur.length:=by omega
     have e:cur[j]=l[j]:=by
      have h1:(cur.drop j)[0]?=(l.drop j)[0]?:=by rw[hd]
      rw[ybq,ybq,Nat.add_zero,z4q hcj,z4q h,D9]at h1;exact h1
     have s1:CZ (Di x cur) 1=some (4,cur.map Y1):=rfl;have g1:(cur.map Y1)[j]?=some (Y1 l[j]):=by rw[ztq,z4q hcj,e];rfl
     have hci:i<cur.length:=by omega
     have g2:(cur.map Y1)[i]?=some (Y1 cur[i]):=by rw[ztq,z4q hci];rfl
     have a2:Cf 0 l.length (iI (i:Int))=some i:=sV (by omega);have e1:D7 .add (iI (j:Int)) (iI 1)=some (iI ((j+1:Nat):Int)):=O8 (show j<9223372036854775807 by omega);have e2:D7 .add (iI (i:Int)) (iI 1)=some (iI ((i+1:Nat):Int)):=O8 (show i<9223372036854775807 by omega);have s2:∀y:Int×Ty,(Di x cur).set 1 (.arr 4 ((cur.map Y1).set i (Y1 y)))=Di x (cur.set i y):=λy=>by rw[<- y5q];rfl
     rw[CW];simp only[J6,zhq,h,L8,F8,E9,H5,sV h,s1,g1,BEq.rfl,F4,B07,B7a x vs hx hv,zsq,P9];have C2T:∀(c:Es),c.drop j=l.drop j->c.drop (j+1)=l.drop (j+1):=λc h=>by rw[<- ylq,<- ylq (l:=l),h]
     by_cases Mh:l[j].1∈vs
     ·simp only[Mh,L8,zgq,z1q,F9,e1]
      refine ih (j+1) i cur (by omega) (by omega) hc ?_ (C2T cur hd);rw[kept j h,D5 Mh,ht]
     ·simp only[Mh,R4,zoq,H5,a2,F8,s1,g2,BEq.rfl,F4,e1,e2,s2]
      refine ih (j+1) (i+1) (cur.set i l[j]) (by omega) (by omega) (by simpa using hc) ?_ ?_
      ·rw[kept j h,C8 Mh,z6q (by simpa using hci),y6q (zeq _),y0q,ht]
      ·rw[List.drop_set,D5 (by omega)];exact C2T cur hd
  have start:l.take j0=X8 (l.take (j0+1)) vs:=by rw[kept j0 hj,D5 (hm hj)];refine(filter_all λi h=>?_).symm;rw[zGq]at h;rw[List.getElem_take];exact hj1 i (by omega) (by omega)
  obtain⟨sg,hs⟩:=loop (l.length-(j0+1)) (j0+1) j0 l (by omega) (by omega) rfl start rfl;refine⟨sg,GL 1 0 l.length 0 _ ?_⟩;rw[C_];have e:D7 .eql (iI (j0:Int)) (iI (-1))=some (.bool false):=by rw[P6,decide_eq_false (by omega)]
  have e1:D7 .add (iI (j0:Int)) (iI 1)=some (iI ((j0+1:Nat):Int)):=O8 (show j0<9223372036854775807 by omega);simp only[hI,F8,zsq,e,E9,z1q,F9,e1];exact hs
def A9J(d:DV)(vs:List Int)(hd:E5 20 d=true)(Xx:A7 10 d=K6 vs)(hv:vs.length<=J9)(j:Int)(l:Es)(hl:l.length<=J9):
 C9.p NE [d,iI j,P7 l]=some (P7 (if 0<j then l else X8 l vs)):=by
 refine(kZ _ _ _).trans ?_;rw[oL];simp only[hd,F4,Ah,F8,J5,F5,Xx,Gx,P6,E9]
 by_cases hj:0<j
 ·simp only[hj,H5]
 simp only[hj,F9]
 by_cases h0:vs=[]
 ·subst h0;simp[C06]
 ·have bM:¬((vs.length:Int)=0):=by have:=List.length_pos_iff.2 h0;omega
  obtain⟨sg,hs⟩:=B2z [(A7 0 d,.val),(A7 1 d,.val),(A7 2 d,.val),(A7 3 d,.val),(A7 4 d,.val),(A7 5 d,.val),(A7 6 d,.val),(A7 7 d,.val),(A7 8 d,.val),(A7 9 d,.val),(A7 10 d,.val),(A7 11 d,.val),(A7 12 d,.val),(A7 13 d,.val),(A7 14 d,.val),(A7 15 d,.val),(A7 16 d,.val),(A7 17 d,.val),(A7 18 d,.val),(A7 19 d,.val)] vs (by rw[<- Xx];rfl) hv l hl;unfold Di at hs;have dl:aC (P7 l)=some (4,l.map Y1):=rfl;simp only[bM,R4,z1q,F9,dl,F8,BEq.rfl,zCq,z3q,hl,L8,F4]
  try rw[Xx]at hs
  simp only[hs,F8,zsq]
def A7q(k:Ty):(DV.agg [A7 0 k.A9,A7 1 k.A9,A7 2 k.A9])=k.A9:=by simp[Ty.M5,Ty.ag]
def C7Q(k:Ty):(DV.agg [iI k.A8,A7 1 k.A9,A7 2 k.A9])=k.A9:=(congrArg (λx=>DV.agg [x,A7 1 k.A9,A7 2 k.A9]) (Ty.AV k)).symm.trans (A7q k)
def Oo(k:Tm):(DV.agg [A7 0 k.A9,A7 1 k.A9,A7 2 k.A9,A7 3 k.A9,A7 4 k.A9,A7 5 k.A9,A7 6 k.A9,A7 7 k.A9,A7 8 k.A9,A7 9 k.A9,A7 10 k.A9,A7 11 k.A9,A7 12 k.A9,A7 13 k.A9,A7 14 k.A9,A7 15 k.A9,A7 16 k.A9,A7 17 k.A9,A7 18 k.A9,A7 19 k.A9])=k.A9:=by simp[Tm.M5,Tm.ag]
theorem C6L:DV.agg [A7 11 t.A9,A7 12 t.A9,A7 13 t.A9]=t.a.A9:=by rw[Tm.K9,Ty.K9];rfl
theorem C6M:DV.agg [A7 14 t.A9,A7 15 t.A9,A7 16 t.A9]=t.b.A9:=by rw[Tm.K9,Ty.K9];rfl
def C19{l:Es}(h:Ae l=true):∀e∈l,e.2.right=true:=by unfold Ae at h;rw[yhq]at h;intro e he;have:=h e he;simp only[zrq]at this;exact this.2
def rY(t:Ty)(l:Es)(ht:t.right=true\/t.none=true)(hl:l.length<=J9)(hr:Ae l=true):C9.p Wj [t.A9,P7 l]=some (t.Az l).A9:=by
 refine(A3a _ _).trans ?_;rw[A50];unfold Ty.Az;simp only[Ty.AV t,A7q,C7Q,R9,F4,P6,F8,E9]
 by_cases h0:t.A8=0
 ·simp only[h0,L8,H5]
 ·have rt:t.right=true:=by
   rcases ht with h | h
   ·exact h
   ·unfold Ty.none at h;simp only[zrq,F5]at h;exact absurd h.1.1 h0
  have s:=qE t l (Ty.R5 rt) hl λe he=>Ty.R5 (C19 hr e he);rw[D5 ⟨rt,hr⟩]at s;have x0:∀a b,K5 0 (.I4 [a,b])=some a:=λ_ _=>rfl;have x1:∀a b,K5 1 (.I4 [a,b])=some b:=λ_ _=>rfl;simp only[h0,R4,z1q,F9,s,F8,x0,x1,R9,F4,A7q]
def Tm.rz{t:Tm}(h:t.right=true):(t.a.right=true\/t.a.none=true)/\(t.b.right=true\/t.b.none=true)/\∀y∈t.args,y.right=true:=by
 have o:=Tm.Z4 h;unfold Tm.one Tm.Kv Tm.LW Tm.LX Tm.Mc Tm.Nj Tm.lists z8 at o;simp only[zrq,yhq]at o;refine⟨?_,?_,?_⟩
 ·have:=o.1.1.2;split at this
  ·exact .inl this
  ·exact .inr this
 ·have:=o.1.2;split at this
  ·exact .inl this
  ·exact .inr this
 ·exact o.2.2.2.2.2.2.1.2
def B5l(j:Nat)(A:List Ty)(K:List Tm):Option DV :=QP C9 (P7 l) t.args.length (iI t.args.length) (iI (j:Int)) (A7 0 t.A9) (A7 1 t.A9) (A7 2 t.A9) (A7 3 t.A9) (A7 4 t.A9) (A7 5 t.A9) (A7 6 t.A9) (A7 7 t.A9) (A7 8 t.A9) (A7 9 t.A9) (A7 10 t.A9) (A7 11 t.A9) (A7 12 t.A9) (A7 13 t.A9) (A7 14 t.A9) (A7 15 t.A9) (A7 16 t.A9) t.args.length (A7 18 t.A9) t.D6.length [.arr 3 (A.map Ty.A9),.arr 20 (K.map Tm.A9)]
def A38(j:Nat)(A:List Ty)(K:List Tm):Option DV :=QQ C9 (P7 l) t.D6.length (iI t.D6.length) (iI (j:Int)) (A7 0 t.A9) (A7 1 t.A9) (A7 2 t.A9) (A7 3 t.A9) (A7 4 t.A9) (A7 5 t.A9) (A7 6 t.A9) (A7 7 t.A9) (A7 8 t.A9) (A7 9 t.A9) (A7 10 t.A9) (A7 11 t.A9) (A7 12 t.A9) (A7 13 t.A9) (A7 14 t.A9) (A7 15 t.A9) (A7 16 t.A9) t.args.length (A7 18 t.A9) t.D6.length [.arr 3 (A.map Ty.A9),.arr 20 (K.map Tm.A9)]
def A8g{A:List Ty}{K:List Tm}:CZ [H7.arr 3 (A.map Ty.A9),.arr 20 (K.map Tm.A9)] 0=some (3,A.map Ty.A9)/\CZ [H7.arr 3 (A.map Ty.A9),.arr 20 (K.map Tm.A9)] 1=some (20,K.map Tm.A9):=⟨rfl,rfl⟩
def A9A{l m:List α}{j:Nat}{y : α}(h:∀i:Nat,j<=i->l[i]?=m[i]?):∀i:Nat,j+1<=i->(l.set j y)[i]?=m[i]?:=λi hi=>by rw[List.getElem?_set_ne (by omega)];exact h i (by omega)
def A1h{l:List α}{j:Nat}(h:j<l.length)(y : α):(l.set j y).take (j+1)=l.take j++[y]:=by rw[z6q (by simpa using h),y6q (zeq _),y0q]
theorem B2N:t.fit->t.right=true->∀l:Es,l.length<=J9->Ae l=true->C9.p Qk [t.A9,P7 l]=some (t.Fb l).A9:=by
 induction t using Tm.ind with
 |h t ih=>
   intro ft rt l hl hr;obtain⟨ra,rb,rargs⟩:=Tm.rz rt;have fk:=z5q ft.one.D6;have fa:=z5q ft.one.args;have hK:=big fk;have hA:=big fa;have fv:=z5q ft.one.vars;have fin:∀(own:Es)(A:List Ty)(K:List Tm),own.length<=J9->Ae own=true->A.length=t.args.length->K.length=t.D6.length->
    QN C9 (P7 own) (A7 0 t.A9) (A7 1 t.A9) (A7 2 t.A9) (A7 3 t.A9) (A7 4 t.A9) (A7 5 t.A9) (A7 6 t.A9) (A7 7 t.A9) (A7 8 t.A9) (A7 9 t.A9) (A7 10 t.A9) (A7 11 t.A9) (A7 12 t.A9) (A7 13 t.A9) (A7 14 t.A9) (A7 15 t.A9) (A7 16 t.A9) t.args.length (A7 18 t.A9) t.D6.length [.arr 3 (A.map Ty.A9),.arr 20 (K.map Tm.A9)] =
    some (Tm.mk t.A8 t.lo t.hi t.name t.arg t.n t.s t.op t.label t.neg t.vars (t.a.Az own) (t.b.Az own) A t.H8 K).A9:=by
    intro own A K h1 h2 h3 h4;have sv:∀d,V6 [H7.arr 3 (A.map Ty.A9),.arr 20 (K.map Tm.A9)] (d,.val)=some d:=λ_=>rfl;have sa:V6 [H7.arr 3 (A.map Ty.A9),.arr 20 (K.map Tm.A9)] (.undef,.arr 0 3 0 t.args.length)=some (.list 3 (A.map Ty.A9)):=by simp only[V6,A8g.1,F8,BEq.rfl,F4,zFq,z3q,h3,zeq,H5,ziq];rw[z8q (by simp[h3])]
    have sk:V6 [H7.arr 3 (A.map Ty.A9),.arr 20 (K.map Tm.A9)] (.undef,.arr 1 20 0 t.D6.length)=some (.list 20 (K.map Tm.A9)):=by simp only[V6,A8g.2,F8,BEq.rfl,F4,zFq,z3q,h4,zeq,H5,ziq];rw[z8q (by simp[h4])]
    rw[kM];simp only[C6L,C6M,rY t.a own ra h1 h2,rY t.b own rb h1 h2,F8,R9,F4,X6,sv,sa,sk,B4C,mi];rw[Tm.K9 (Tm.mk _ _ _ _ _ _ _ _ _ _ _ _ _ _ _ _)];simp only[Tm.pj,I7,Ty.AV,Ty.Ju,Ty.En,Tm.Cn,Tm.aP,Tm.aN,Tm.DU,Tm.Jc,Tm.Vn,Tm.Oj,Tm.yB,Tm.Vk,Tm.mJ,Tm.JR,Tm.jV,Tm.jY,Tm.Pg,Tm.Gu,Tm.U6];rfl
   have hid:∀j:Int,C9.p NE [.agg [A7 0 t.A9,A7 1 t.A9,A7 2 t.A9,A7 3 t.A9,A7 4 t.A9,A7 5 t.A9,A7 6 t.A9,A7 7 t.A9,A7 8 t.A9,A7 9 t.A9,A7 10 t.A9,A7 11 t.A9,A7 12 t.A9,A7 13 t.A9,A7 14 t.A9,A7 15 t.A9,A7 16 t.A9,.undef,A7 18 t.A9,.undef],iI j,P7 l]=some (P7 (if 0<j then l else X8 l t.vars)):=λj=>A9J _ t.vars rfl (by show A7 10 t.A9=_;rw[Tm.PP]) fv j l hl
   have D6:∀(n j:Nat)(A:List Ty)(K:List Tm),j+n=t.D6.length->A.length=t.args.length->K.length=t.D6.length->(∀i:Nat,j<=i->K[i]?=t.D6[i]?)->
    A38 t l j A K=some (Tm.mk t.A8 t.lo t.hi t.name t.arg t.n t.s t.op t.label t.neg t.vars (t.a.Az (if t.A8=12 then X8 l t.vars else l)) (t.b.Az (if t.A8=12 then X8 l t.vars else l)) A t.H8 (K.take j++(Tm.LP t.D6 (X8 l t.vars) l).drop j)).A9:=by
    intro n;induction n with
    |zero=>
      intro j A K hj ha hk _;have e:j=t.D6.length:=by omega
      subst e;have ho:=hid 0;rw[C8 (by omega)]at ho;unfold A38;rw[Vb];simp only[J6,zcq,R4,F8,E9,z1q,F9,Tm.AV t,P6];rw[<- Tm.AV t];rw[z8q (Nat.le_of_eq hk),zYq (by rw[Tm.WN];exact zeq _),zLq];by_cases UN:t.A8=12
      ·simp only[UN,L8,H5,ho,F8]
       have:=fin (X8 l t.vars) A K (zZq (A6S l _) hl) (TA hr _) ha hk;rw[this,UN]
      ·simp only[UN,R4,z1q,F9]
       exact fin l A K hl hr ha hk
    |succ n ihn=>
      intro j A K hj ha hk hc;have h:j<t.D6.length:=by omega
      have h':j<K.length:=by omega
      have hcj:K[j]=t.D6[j]:=by have:=hc j (zeq _);rw[z4q h,z4q h']at this;simpa using this
      have g1:(K.map Tm.A9)[j]?=some t.D6[j].A9:=by rw[ztq,z4q h',hcj];rfl
      have e1:D7 .add (iI (j:Int)) (iI 1)=some (iI ((j+1:Nat):Int)):=O8 (show j<9223372036854775807 by omega);have hb:(if (0:Int)<(j:Int)then l else X8 l t.vars)=MS j (X8 l t.vars) l:=by
       unfold MS;by_cases h0:j=0
       ·subst h0;rfl
       ·rw[D5 (by omega),C8 h0]
      have ho:=hid (j:Int);rw[hb]at ho;have bl:(MS j (X8 l t.vars) l).length<=J9:=by
       unfold MS;split
       ·exact zZq (A6S l _) hl
       ·exact hl
      have br:Ae (MS j (X8 l t.vars) l)=true:=by
       unfold MS;split
       ·exact TA hr _
       ·exact hr
      have f1:=ih _ (z0q h) (ft.kid (z0q h)) (Tm.M8 rt (z0q h)) _ bl br;have nx:=ihn (j+1) A (K.set j (t.D6[j].Fb (MS j (X8 l t.vars) l))) (by omega) ha (by simpa using hk) (A9A hc);rw[A1h h']at nx;unfold A38 at nx ⊢;rw[Vb];rw[y5q]at nx;simp only[J6,zhq,h,L8,F8,E9,H5,sV h,A8g.2,g1,BEq.rfl,F4,ho,Oo,f1,I8,e1,zVq,zBq];rw[nx];have e2:(Tm.LP t.D6 (X8 l t.vars) l).drop j=t.D6[j].Fb (MS j (X8 l t.vars) l)::(Tm.LP t.D6 (X8 l t.vars) l).drop (j+1):=by
       have P8:j<(Tm.LP t.D6 (X8 l t.vars) l).length:=by rw[Tm.WN];exact h
       rw[z2q P8];congr 1;have:=Tm.cB (X8 l t.vars) l t.D6 j;rw[z4q P8,z4q h,Option.map_some,D9]at this;exact this
      rw[e2,zxq];rfl
   have args:∀(n j:Nat)(A:List Ty),j+n=t.args.length->A.length=t.args.length->(∀i:Nat,j<=i->A[i]?=t.args[i]?)->B5l t l j A t.D6=A38 t l 0 (A.take j++(t.args.map (Ty.Az l)).drop j) t.D6:=by
    intro n;induction n with
    |zero=>
      intro j A hj ha _;have e:j=t.args.length:=by omega
      subst e;unfold B5l A38;rw[Va];simp only[J6,zcq,R4,F8,E9,z1q,F9];rw[z8q (Nat.le_of_eq ha),zYq (by simp),zLq];rfl
    |succ n ihn=>
      intro j A hj ha hc;have h:j<t.args.length:=by omega
      have h':j<A.length:=by omega
      have hcj:A[j]=t.args[j]:=by have:=hc j (zeq _);rw[z4q h,z4q h']at this;simpa using this
      have g1:(A.map Ty.A9)[j]?=some t.args[j].A9:=by rw[ztq,z4q h',hcj];rfl
      have e1:D7 .add (iI (j:Int)) (iI 1)=some (iI ((j+1:Nat):Int)):=O8 (show j<9223372036854775807 by omega);have f1:=rY t.args[j] l (.inl (rargs _ (z0q h))) hl hr;have nx:=ihn (j+1) (A.set j (t.args[j].Az l)) (by omega) (by simpa using ha) (A9A hc);rw[A1h h']at nx;unfold B5l at nx ⊢;rw[Va];rw[y5q]at nx;simp only[J6,zhq,h,L8,F8,E9,H5,sV h,A8g.1,g1,BEq.rfl,F4,A7q,f1,R9,e1,zBq];rw[nx];congr 1;have P8:j<(t.args.map (Ty.Az l)).length:=by simpa using h
      rw[z2q P8,zxq,List.getElem_map];rfl
   refine(vF _ _).trans ?_;rw[A0l];simp only[I8,F4,Tm.Kw t,Tm.CK t,A8s,F8,BEq.rfl,zCq,z3q,fa,fk,L8];have h1:=args t.args.length 0 t.args (by omega) rfl λi _=>rfl;have h2:=D6 t.D6.length 0 (t.args.map (Ty.Az l)) t.D6 (by omega) (by simp) rfl λi _=>rfl;rw[y9q,ziq,znq]at h1 h2;rw[Tm.WO,<- h2,<- h1];rfl
def yR(t:Ty)(l:Es)(ht:t.right=true\/t.none=true)(hl:l.length<=J9):C9.p aZ [t.A9,P7 l]=some (t.Az l).A9:=by
 refine(A6b _ _).trans ?_;rw[A8F];simp only[A7q,R9,F4,B6b,F8,E9];cases hn:t.none
 ·have rt:t.right=true:=by
   rcases ht with h | h
   ·exact h
   ·rw[hn]at h;cases h
  have hp:=B8K l hl t rt;simp only[z1q,F9,hp,F8,R9,F4,A7q];unfold Ty.Az;rw[C8 (Ty.A84 rt)]
 ·simp only[H5]
  rw[Ty.B1D l hn]
theorem B7C(b:Int×Ty):DV.agg [iI b.1,A7 1 (Y1 b),A7 2 (Y1 b),A7 3 (Y1 b)]=Y1 b:=rfl
def B3p(a:Es)(b:Int×Ty)(h:a.length+1<=J9):AP 4 (P7 a) (.list 4 [Y1 b])=some (P7 (a++[b])):=by unfold P7;exact Cs (e:=Y1) (sz:=4) (l:=a) (x:=b) h
def B0z(vs:List Int)(hl:l.length<=J9)(hv:vs.length<=J9):C9.p dC [P7 l,K6 vs]=some (P7 (X8 l vs)):=by
 have hb:=big hl;refine(oZ _ _).trans ?_;rw[uH];have loop:=HZ (l:=l) (P:=λj (a:Es)=>Kb C9 (P7 l) (K6 vs) (P7 a) (iI j))
  (g:=λa b=>if b.1∈vs then a else a++[b]) (fin:=λa=>some (P7 a)) (I:=λj a=>a.length<=j)
  (λa _=>by
    have dl:L6 (P7 l)=some (iI l.length):=by simp[P7]
    rw[Tf];simp[dl])
  (λj h a ha=>by
    have dl:L6 (P7 l)=some (iI l.length):=by simp[P7]
    have e1:F7 4 (P7 l) (iI (j:Int))=some (Y1 l[j]):=J3 h;have e2:=B1Q vs hv l[j].1;have e3:=B3p a l[j] (by omega);have e4:D7 .add (iI (j:Int)) (iI 1)=some (iI ((j:Int)+1)):=O8 (show j<9223372036854775807 by omega);rw[Tf];by_cases hm:l[j].1∈vs
    ·refine⟨?_,by rw[D5 hm];omega⟩;simp only[dl,F8,J6,zhq,h,L8,E9,H5,e1,A2a,e2,hm,P9,zgq,z1q,F9,e4]
    ·refine⟨?_,by rw[C8 hm];simp;omega⟩;simp only[dl,F8,J6,zhq,h,L8,E9,H5,e1,A2a,e2,hm,R4,P9,zoq,B7C,e3,e4,F9]) [] (zMq _)
 have e:∀(m:Es)(a:Es),m.foldl (λa b=>if b.1∈vs then a else a++[b]) a=a++X8 m vs:=by
  intro m;induction m with
  |nil=>intro a;simp[X8]
  |cons x m ih=>
    intro a;rw[zUq,ih];by_cases hm:x.1∈vs
    ·simp[X8,hm]
    ·simp[X8,hm]
 rw[e,znq]at loop;exact loop
def B48:t.fit->t.right=true->∀l:Es,l.length<=J9->C9.p UA [t.A9,P7 l]=some (t.Fb l).A9:=by
 induction t using Tm.ind with
 |h t ih=>
   intro ft rt l hl;obtain⟨ra,rb,rargs⟩:=Tm.rz rt;have fk:=z5q ft.one.D6;have fa:=z5q ft.one.args;have hK:=big fk;have hA:=big fa;have fv:=z5q ft.one.vars;have ho:=B0z l t.vars hl fv;have lo:(X8 l t.vars).length<=J9:=zZq (A6S l _) hl;have main:∀own:Es,own.length<=J9->Us C9 (P7 l) (P7 (X8 l t.vars)) (P7 own) t.A9 =
    some (Tm.mk t.A8 t.lo t.hi t.name t.arg t.n t.s t.op t.label t.neg t.vars (t.a.Az own) (t.b.Az own) (t.args.map (Ty.Az l)) t.H8 (Tm.LP t.D6 (X8 l t.vars) l)).A9:=by
    intro own RP;rw[uE];simp only[C6L,C6M,yR t.a own ra RP,yR t.b own rb RP,F8,R9,F4];have D6:=λ(A:List Ty)=>HZ (l:=t.D6.mapIdx λj k=>(j,k)) (P:=λj (K:List Tm)=>Ls C9 (P7 l) (P7 (X8 l t.vars)) (.list 3 (A.map Ty.A9)) (.list 20 (K.map Tm.A9)) (iI j) (A7 0 t.A9) (A7 1 t.A9) (A7 2 t.A9) (A7 3 t.A9) (A7 4 t.A9) (A7 5 t.A9) (A7 6 t.A9) (A7 7 t.A9) (A7 8 t.A9) (A7 9 t.A9) (A7 10 t.A9) (A7 0 (t.a.Az own).A9) (A7 1 (t.a.Az own).A9) (A7 2 (t.a.Az own).A9) (A7 0 (t.b.Az own).A9) (A7 1 (t.b.Az own).A9) (A7 2 (t.b.Az own).A9) (A7 17 t.A9) (A7 18 t.A9) (A7 19 t.A9))
     (g:=λK b=>K++[b.2.Fb (MS b.1 (X8 l t.vars) l)])
     (fin:=λK=>some (Tm.mk t.A8 t.lo t.hi t.name t.arg t.n t.s t.op t.label t.neg t.vars (t.a.Az own) (t.b.Az own) A t.H8 K).A9) (I:=λj K=>K.length=j)
     (λK _=>by have ci:J7 (.list 3 (A.map Ty.A9))=true:=rfl;simp only[List.length_mapIdx];rw[VR];simp only[Tm.CK t,N8,z3q,F8,J6,zcq,R4,E9,z1q,F9,ci,F4];rw[Tm.K9 (Tm.mk _ _ _ _ _ _ _ _ _ _ _ _ _ _ _ _)];simp only[Tm.pj,I7,Ty.AV,Ty.Ju,Ty.En,Tm.Cn,Tm.aP,Tm.aN,Tm.DU,Tm.Jc,Tm.Vn,Tm.Oj,Tm.yB,Tm.Vk,Tm.mJ,Tm.JR,Tm.jV,Tm.jY,Tm.Pg,Tm.Gu,Tm.U6])
     (λj h K hK'=>by
       have h:j<t.D6.length:=by simpa using h
       refine⟨?_,by simp[hK']⟩;have e1:F7 20 (.list 20 (t.D6.map Tm.A9)) (iI (j:Int))=some t.D6[j].A9:=J3 h;have e2:=Cs (e:=Tm.A9) (sz:=20) (l:=K) (x:=t.D6[j].Fb (MS j (X8 l t.vars) l)) (by omega);have e4:D7 .add (iI (j:Int)) (iI 1)=some (iI ((j:Int)+1)):=O8 (show j<9223372036854775807 by omega);have f1:=ih _ (z0q h) (ft.kid (z0q h)) (Tm.M8 rt (z0q h)) (MS j (X8 l t.vars) l) (by unfold MS;split;exact lo;exact hl);simp only[List.getElem_mapIdx];rw[VR];simp only[Tm.CK t,N8,z3q,F8,J6,zhq,h,L8,E9,H5,P6,e1,Oo]
       by_cases h0:j=0
       ·have hj:(j:Int)=0:=by omega
        have eb:MS j (X8 l t.vars) l=X8 l t.vars:=D5 h0;rw[eb]at f1 e2 ⊢;simp only[hj,L8,H5]at e4 ⊢;simp only[f1,F8,I8,F4,Oo,e2,e4]
       ·have hj:¬(j:Int)=0:=by omega
        have eb:MS j (X8 l t.vars) l=l:=C8 h0;rw[eb]at f1 e2 ⊢;simp only[hj,R4,z1q,F9,f1,F8,I8,F4,Oo,e2,e4]) [] rfl
    have args:=HZ (l:=t.args) (P:=λj (A:List Ty)=>SS C9 (P7 l) (P7 (X8 l t.vars)) (.list 3 (A.map Ty.A9)) (iI j) (A7 0 t.A9) (A7 1 t.A9) (A7 2 t.A9) (A7 3 t.A9) (A7 4 t.A9) (A7 5 t.A9) (A7 6 t.A9) (A7 7 t.A9) (A7 8 t.A9) (A7 9 t.A9) (A7 10 t.A9) (A7 0 (t.a.Az own).A9) (A7 1 (t.a.Az own).A9) (A7 2 (t.a.Az own).A9) (A7 0 (t.b.Az own).A9) (A7 1 (t.b.Az own).A9) (A7 2 (t.b.Az own).A9) (A7 17 t.A9) (A7 18 t.A9) (A7 19 t.A9))
     (g:=λA b=>A++[b.Az l]) (fin:=λA=>some (Tm.mk t.A8 t.lo t.hi t.name t.arg t.n t.s t.op t.label t.neg t.vars (t.a.Az own) (t.b.Az own) A t.H8 (Tm.LP t.D6 (X8 l t.vars) l)).A9) (I:=λj A=>A.length=j)
     (λA _=>by
       have k:=D6 A;have ek:∀(m:List (Nat×Tm))(a:List Tm),m.foldl (λK b=>K++[b.2.Fb (MS b.1 (X8 l t.vars) l)]) a=a++m.map λb=>b.2.Fb (MS b.1 (X8 l t.vars) l):=by
        intro m;induction m with
        |nil=>intro a;simp
        |cons x m ih=>intro a;rw[zUq,ih];simp
       rw[ek,znq]at k;have em:((t.D6.mapIdx λj k=>(j,k)).map λb:Nat×Tm=>b.2.Fb (MS b.1 (X8 l t.vars) l))=Tm.LP t.D6 (X8 l t.vars) l:=by refine List.ext_getElem? λj=>?_;rw[Tm.cB,ztq,List.getElem?_mapIdx,Option.map_map];rfl
       rw[em]at k;rw[XZ];simp only[Tm.Kw t,N8,z3q,F8,J6,zcq,R4,E9,z1q,F9];rw[Tm.Kw t]at k;exact k)
     (λj h A hA'=>by refine⟨?_,by simp[hA']⟩;have e1:F7 3 (.list 3 (t.args.map Ty.A9)) (iI (j:Int))=some t.args[j].A9:=J3 h;have e2:=Cs (e:=Ty.A9) (sz:=3) (l:=A) (x:=t.args[j].Az l) (by omega);have e4:D7 .add (iI (j:Int)) (iI 1)=some (iI ((j:Int)+1)):=O8 (show j<9223372036854775807 by omega);have f1:=yR t.args[j] l (.inl (rargs _ (z0q h))) hl;rw[XZ];simp only[Tm.Kw t,N8,z3q,F8,J6,zhq,h,L8,E9,H5,e1,A7q,f1,R9,F4,e2,e4]) [] rfl
    have ea:∀(m:List Ty)(a:List Ty),m.foldl (λA b=>A++[b.Az l]) a=a++m.map (Ty.Az l):=by
     intro m;induction m with
     |nil=>intro a;simp
     |cons x m ih=>intro a;simp[ih]
    rw[ea,znq]at args;exact args
   refine(A0D _ _).trans ?_;rw[A2u,Tm.WO];simp only[I8,F4,Tm.PP,ho,F8,Tm.AV,P6,E9,Oo]
   by_cases UN:t.A8=12
   ·simp only[UN,L8,H5]
    have:=main (X8 l t.vars) lo;rw[UN]at this;exact this
   ·simp only[UN,R4,z1q,F9]
    exact main l hl
def fB(t:Ty)(h:t.size<=J9):∃b:Bool,C9.p PX [t.A9]=some (.bool b)/\(b=true->t.size<=60):=by
 obtain⟨b,hb⟩:=A3W [t] (by simp[J9]) (by simpa using h);simp only[z9q,zfq]at hb;have hs:=Ua t h;cases b
 ·refine⟨false,(PE _).trans ?_,by simp⟩;rw[Qx];simp[Ty.M5,Ty.ag,hb]
 ·refine⟨decide ((t.size:Int)<=60),(PE _).trans ?_,λh=>by simp at h;omega⟩;rw[Qx];simp[Ty.M5,Ty.ag,hb,hs]
variable (xs:List Int)(v:Tm)
def Lg:List (DV×H6) :=[(.str s,.val),(K6 xs,.val),(iI v.A8,.val),(iI v.lo,.val),(iI v.hi,.val),(.str v.name,.val),(.str v.arg,.val),(iI v.n,.val),(.str v.s,.val),(iI v.op,.val),(iI v.label,.val),(.bool v.neg,.val),(K6 v.vars,.val),(iI v.a.A8,.val),(iI v.a.n,.val),(.list 3 (v.a.D6.map Ty.A9),.val),(iI v.b.A8,.val),(iI v.b.n,.val),(.list 3 (v.b.D6.map Ty.A9),.val),(.list 3 (v.args.map Ty.A9),.val),(.list 7 (v.H8.map E8.A9),.val),(.list 20 (v.D6.map Tm.A9),.val)]
def B5T:∃e,Dj 2 20 (Lg s xs v)=some e/\DV.agg e=v.A9:=⟨_,rfl,by rw[Tm.K9]⟩
def lw(t:Tm)(j:Int)(a:Es)(S:List H7):Option (List DV×List H7) :=JG C9 0 (P7 a) (K6 xs) (iI xs.length) (iI j) t.A9 S
def C1M(t:Tm)(S:List H7)(hS:Q7 S 0=some (Lg s xs v))(gG:xs.length<=J9)(h3:t.args.length=xs.length):
 lw xs t 0 [] S=lw xs t xs.length (xs.zip t.args) S:=by
 have hb:=big gG;have loop:∀(n j:Nat),j+n=xs.length->lw xs t j ((xs.zip t.args).take j) S=lw xs t xs.length (xs.zip t.args) S:=by
  intro n;induction n with
  |zero=>
    intro j hj;have e:j=xs.length:=by omega
    subst e;rw[z8q (by rw[zAq];omega)]
  |succ n ih=>
    intro j hj;have h:j<xs.length:=by omega
    have h':j<t.args.length:=by omega
    have hz:j<(xs.zip t.args).length:=by rw[zAq];omega
    rw[<- ih (j+1) (by omega),z6q hz,List.getElem_zip];have e1:=Bg (k:=.i64) h;have e2:F7 3 (.list 3 (t.args.map Ty.A9)) (iI (j:Int))=some t.args[j].A9:=J3 h';have e3:=B3p ((xs.zip t.args).take j) (xs[j],t.args[j]) (by rw[zGq];omega);have e5:Y1 (xs[j],t.args[j])=.agg [iI xs[j],A7 0 t.args[j].A9,A7 1 t.args[j].A9,A7 2 t.args[j].A9]:=by rw[Ty.K9];rfl
    rw[e5]at e3;have e4:D7 .add (iI (j:Int)) (iI 1)=some (iI ((j+1:Nat):Int)):=O8 (show j<9223372036854775807 by omega);have il:M7 (iI xs[j])=true:=rfl;have ic:J7 (iI xs[j])=true:=rfl;unfold lw;rw[MW];simp only[J6,zhq,h,L8,F8,E9,H5,e1,il,ic,F4,Tm.Kw t,e2,e3,e4]
 have:=loop xs.length 0 (by omega);exact this
def C3K(t:Tm)(S:List H7)(hS:Q7 S 0=some (Lg s xs v))(e:List DV)(e1:Dj 2 20 (Lg s xs v)=some e)(e2:DV.agg e=v.A9)(hT:C9.p Qk [v.A9,P7 (xs.zip t.args)]=some (v.Fb (xs.zip t.args)).A9):
 lw xs t xs.length (xs.zip t.args) S=some ([(v.Fb (xs.zip t.args)).A9,.bool true],S):=by
 unfold lw;rw[MW];simp only[J6,zcq,R4,F8,E9,z1q,F9,hS,e1,e2,hT,I8,F4,Oo]
def B2C:t.fit->t.sized->∀n:Int,0<=n->n<=500->∃m:Int,C9.p PY [t.A9,iI n]=some (iI m)/\0<=m/\m<=5000000000/\(m<=500->n+t.size<=m/\t.yQ):=by
 induction t using Tm.ind with
 |h t ih=>
   intro ht hz n h0 h1;have hk:=big (z5q ht.one.D6);have hp:=big (z5q ht.one.H8);have ha:=big (z5q ht.one.args);have hv:=big (z5q ht.one.vars);have l3:∀(k j:Nat)(n:Int),j+k=t.D6.length->0<=n->n<=5000000000->∃m:Int,JE C9 (iI n) (iI j) t.A9=some (iI m)/\0<=m/\m<=5000000000/\(m<=500->n+(((t.D6.drop j).map Tm.size).sum:Nat)<=m/\∀k∈t.D6.drop j,k.yQ):=by
    intro k;induction k with
    |zero=>
      intro j n hj h0 h1;refine⟨n,?_,h0,h1,λ_=>by rw[z7q (by omega)];simp⟩;have:¬j<t.D6.length:=by omega
      rw[OW];simp[this]
    |succ k ihk=>
      intro j n hj h0 h1;have BS:j<t.D6.length:=by omega
      rw[OW];by_cases hn:n<=500
      ·obtain⟨m,a1,a2,a3,a4⟩:=ih _ (z0q BS) (ht.kid (z0q BS)) (hz.kid (z0q BS)) n h0 hn;obtain⟨m',b1,b2,b3,b4⟩:=ihk (j+1) m (by omega) a2 a3;push_cast at b1;exact⟨m',by simp[BS,hn,J3 BS,Tm.M5,Tm.ag,a1,O8 (show j<9223372036854775807 by omega),b1],b2,b3,λh=>by
        have g1:=b4 h;rw[z2q BS,z9q,zvq];have g2:=a4 (by omega);push_cast;refine⟨by omega,λk hk=>?_⟩;rcases zSq.1 hk with rfl | hk
        ·exact g2.2
        ·exact g1.2 k hk⟩
      ·exact⟨n,by simp[BS,hn],h0,h1,λh=>absurd h (by omega)⟩
   have l2:∀(k j:Nat)(n:Int),j+k=t.H8.length->0<=n->n<=5000000000->∃m:Int,JD C9 (iI n) (iI j) t.A9=some (iI m)/\0<=m/\m<=5000000000/\(m<=500->n+((t.D6.map Tm.size).sum:Nat)<=m/\∀k∈t.D6,k.yQ):=by
    intro k;induction k with
    |zero=>
      intro j n hj h0 h1;obtain⟨m,a1,a2,a3,a4⟩:=l3 t.D6.length 0 n (by omega) h0 h1;refine⟨m,?_,a2,a3,by simpa using a4⟩;have:¬j<t.H8.length:=by omega
      rw[OV];simp[this];exact a1
    |succ k ihk=>
      intro j n hj h0 h1;have BS:j<t.H8.length:=by omega
      rw[OV];by_cases hn:n<=500
      ·obtain⟨m,a1,a2,a3,a4⟩:=A7l _ (E8.ZL (ht.one.pat _ (z0q BS))) n h0 hn;obtain⟨m',b1,b2,b3,b4⟩:=ihk (j+1) m (by omega) a2 (by omega);push_cast at b1;exact⟨m',by simp[BS,hn,J3 BS,E8.M5,E8.ag,a1,O8 (show j<9223372036854775807 by omega),b1],b2,b3,λh=>⟨by have:=b4 h;omega,(b4 h).2⟩⟩
      ·obtain⟨m,a1,a2,a3,a4⟩:=l3 t.D6.length 0 n (by omega) h0 h1;exact⟨m,by simp[BS,hn];exact a1,a2,a3,by simpa using a4⟩
   have l1:∀(k j:Nat)(n:Int),j+k=t.args.length->0<=n->n<=5000000000->∃m:Int,NG C9 (iI n) (iI j) t.A9=some (iI m)/\0<=m/\m<=5000000000/\(m<=500->n+((t.D6.map Tm.size).sum:Nat)<=m/\(∀k∈t.D6,k.yQ)/\∀y∈t.args.drop j,y.size<=60):=by
    intro k;induction k with
    |zero=>
      intro j n hj h0 h1;obtain⟨m,a1,a2,a3,a4⟩:=l2 t.H8.length 0 n (by omega) h0 h1;refine⟨m,?_,a2,a3,λh=>⟨(a4 h).1,(a4 h).2,by rw[z7q (by omega)];simp⟩⟩;have:¬j<t.args.length:=by omega
      rw[QU];simp[this];exact a1
    |succ k ihk=>
      intro j n hj h0 h1;have BS:j<t.args.length:=by omega
      rw[QU];by_cases hn:n<=500
      ·obtain⟨b,hb,hq⟩:=fB _ (hz.args _ (z0q BS));have Ik:D7 .add (iI n) (iI 1)=some (iI (n+1)):=GJ (by omega) (by omega);cases b
       ·exact⟨501,by simp[BS,hn,Ik,J3 BS,Ty.M5,Ty.ag,hb],by omega,by omega,λh=>absurd h (by omega)⟩
       ·obtain⟨m',b1,b2,b3,b4⟩:=ihk (j+1) (n+1) (by omega) (by omega) (by omega);push_cast at b1;exact⟨m',by simp[BS,hn,Ik,J3 BS,Ty.M5,Ty.ag,hb,O8 (show j<9223372036854775807 by omega),b1],b2,b3,λh=>⟨by have:=b4 h;omega,(b4 h).2.1,λy hy=>by
         rw[z2q BS]at hy;rcases zSq.1 hy with rfl | hy
         ·exact hq rfl
         ·exact(b4 h).2.2 y hy⟩⟩
      ·obtain⟨m,a1,a2,a3,a4⟩:=l2 t.H8.length 0 n (by omega) h0 h1;exact⟨m,by simp[BS,hn];exact a1,a2,a3,λh=>absurd (a4 h).1 (by omega)⟩
   have Ik:D7 .add (iI n) (iI 1)=some (iI (n+1)):=GJ (by omega) (by omega);have Sq:D7 .add (iI (n+1)) (iI (t.vars.length:Int))=some (iI (n+1+t.vars.length)):=GJ (by omega) (by omega);by_cases c1:(300:Int)<(t.s.size:Int)
   ·refine⟨501,(Bt _ _).trans ?_,by omega,by omega,λh=>absurd h (by omega)⟩;rw[CV];simp[c1,Ik,Sq]
   by_cases c2:(300:Int)<(t.name.size:Int)
   ·refine⟨501,(Bt _ _).trans ?_,by omega,by omega,λh=>absurd h (by omega)⟩;rw[CV];simp[c1,c2,Ik,Sq]
   by_cases c3:(300:Int)<(t.arg.size:Int)
   ·refine⟨501,(Bt _ _).trans ?_,by omega,by omega,λh=>absurd h (by omega)⟩;rw[CV];simp[c1,c2,c3,Ik,Sq]
   obtain⟨b1,KF,hq1⟩:=fB _ hz.a;obtain⟨b2,TU,gD⟩:=fB _ hz.b;cases b1
   ·refine⟨501,(Bt _ _).trans ?_,by omega,by omega,λh=>absurd h (by omega)⟩;rw[CV];simp[c1,c2,c3,Ik,Sq,Ty.M5,Ty.ag,KF]
   cases b2
   ·refine⟨501,(Bt _ _).trans ?_,by omega,by omega,λh=>absurd h (by omega)⟩;rw[CV];simp[c1,c2,c3,Ik,Sq,Ty.M5,Ty.ag,KF,TU]
   obtain⟨m,a1,a2,a3,a4⟩:=l1 t.args.length 0 (n+1+t.vars.length) (by omega) (by omega) (by omega);refine⟨m,(Bt _ _).trans ?_,a2,a3,λh=>⟨by have:=(a4 h).1;have:=t.size_eq;push_cast at *;omega,.mk _ ⟨hq1 rfl,gD rfl,by simpa using(a4 h).2.2⟩ (a4 h).2.1⟩⟩
   rw[CV];simp[c1,c2,c3,Ik,Sq,Ty.M5,Ty.ag,KF,TU];exact a1
def B2B(l:List Tm)(hl:l.length<=16)(ft:∀t∈l,t.fit)(hz:∀t∈l,t.sized):∃b:Bool,C9.p qM [.list 20 (l.map Tm.A9)]=some (.bool b)/\(b=false->(l.map Tm.size).sum<=500/\∀t∈l,t.yQ):=by
 have loop:∀(k j:Nat)(n:Int),j+k=l.length->0<=n->n<=(j+1) * 5000000000->∃b:Bool,SI C9 (.list 20 (l.map Tm.A9)) (iI n) (iI (j:Int))=some (.bool b)/\(b=false->n+(((l.drop j).map Tm.size).sum:Nat)<=500/\∀t∈l.drop j,t.yQ):=by
  intro k;induction k with
  |zero=>
    intro j n hj h0 h1;have:¬j<l.length:=by omega
    refine⟨decide (500<n),?_,λh=>?_⟩
    ·rw[XP];simp[this]
    ·rw[z7q (by omega)];simp at h;simp;omega
  |succ k ih=>
    intro j n hj h0 h1;have h:j<l.length:=by omega
    obtain⟨m,a1,a2,a3,a4⟩:∃m:Int,C9.p PY [l[j].A9,iI n]=some (iI m)/\0<=m/\m<=n+5000000000/\(m<=500->n+l[j].size<=m/\l[j].yQ):=by
     by_cases hn:n<=500
     ·obtain⟨m,a1,a2,a3,a4⟩:=B2C _ (ft _ (z0q h)) (hz _ (z0q h)) n h0 hn;exact⟨m,a1,a2,by omega,a4⟩
     ·obtain⟨m,a1,a2,a3⟩:=A3Y _ (ft _ (z0q h)) (hz _ (z0q h)) n (by omega) (by omega);exact⟨m,a1,by omega,by omega,λh=>absurd h (by omega)⟩
    obtain⟨b,hb,TU⟩:=ih (j+1) m (by omega) a2 (by omega);push_cast at hb;refine⟨b,?_,λhf=>?_⟩
    ·rw[XP];simp[h,J3 h,Tm.M5,Tm.ag,a1,O8 (show j<9223372036854775807 by omega),hb]
    ·have g1:=TU hf;rw[z2q h,z9q,zvq];have g2:=a4 (by omega);push_cast;refine⟨by omega,λk hk=>?_⟩;rcases zSq.1 hk with rfl | hk
     ·exact g2.2
     ·exact g1.2 k hk
 obtain⟨b,hb,TU⟩:=loop l.length 0 0 (by omega) (by omega) (by omega);refine⟨b,(A0t _).trans ?_,λh=>?_⟩
 ·rw[A2k];simpa using hb
 ·have:=TU h;rw[ziq]at this;exact⟨by omega,this.2⟩
def Tm.B4c{t:Tm}(h:t.right=true)(h1:t.A8=1):t.D6=[]:=by have o:=Tm.Z4 h;unfold Tm.one at o;simp only[zrq,F5]at o;have:=o.1.1.1.1.1.2;rw[h1]at this;simp[R7]at this;exact this
def B58(x:Int)(n:Nat)(h0:0<n)(h1:n<=J9):∃r:Nat,r<n/\C9.p gJ [iI x,iI n]=some (iI r):=by
 have hb:=big h1;have hn:¬((n:Int)<1):=by omega
 have hu:IntKind.u64.wrap (n:Int)=n:=Go.IntWalk.u64_in _ ⟨by omega,by omega⟩;have hx:0<=IntKind.u64.wrap x:=by simp[IntKind.wrap,IntKind.bits,IntKind.signed];omega
 generalize hw:IntKind.u64.wrap x=w at hx;have hr1:0<=w.tmod n:=Int.tmod_nonneg _ hx;have hr2:w.tmod n<n:=Int.tmod_lt_of_pos _ (by omega);refine⟨(w.tmod n).toNat,by omega,(A2L _ _).trans ?_⟩;have C8J:D7 .rem (.int .u64 w) (.int .u64 (n:Int))=some (.int .u64 (w.tmod n)):=by
  have:¬((n:Int)=0):=by omega
  simp[D7,Le,NS];omega
 have hi:IntKind.i64.wrap (w.tmod n)=w.tmod n:=Go.IntWalk.i64_in _ ⟨by omega,by omega⟩;have hc:((w.tmod n).toNat:Int)=w.tmod n:=by omega
 rw[A5C];simp only[J6,hn,R4,F8,E9,z1q,F9,XF,hw,hu,C8J,hi,hc]
end
end Go.Su

/-
 The calculus: grounds, values, chains, parts of types; the program's and the document's.
-/
namespace Go.Su
set_option linter.defProp false
def J4{α β : Type}(a : α)(f : α->Option β):ob (some a) f=f a:=by simp[ob]
theorem Rv(t:Ty):DV.agg [A7 0 t.A9,A7 1 t.A9,A7 2 t.A9]=t.A9:=by rw[Ty.K9];rfl
variable (t:Tm)
theorem U5:DV.agg [A7 0 t.A9,A7 1 t.A9,A7 2 t.A9,A7 3 t.A9,A7 4 t.A9,A7 5 t.A9,A7 6 t.A9,A7 7 t.A9,A7 8 t.A9,A7 9 t.A9,A7 10 t.A9,A7 11 t.A9,A7 12 t.A9,A7 13 t.A9,A7 14 t.A9,A7 15 t.A9,A7 16 t.A9,A7 17 t.A9,A7 18 t.A9,A7 19 t.A9]=t.A9:=by rw[Tm.K9];rfl
theorem wH:DV.agg [A7 11 t.A9,A7 12 t.A9,A7 13 t.A9]=t.a.A9:=by rw[Tm.K9,Ty.K9];rfl
theorem tmB:DV.agg [A7 14 t.A9,A7 15 t.A9,A7 16 t.A9]=t.b.A9:=by rw[Tm.K9,Ty.K9];rfl
theorem rsE(r:GZ):DV.agg [A7 0 r.A9,A7 1 r.A9,A7 2 r.A9,A7 3 r.A9,A7 4 r.A9,A7 5 r.A9,A7 6 r.A9,A7 7 r.A9,A7 8 r.A9,A7 9 r.A9,A7 10 r.A9,A7 11 r.A9,A7 12 r.A9,A7 13 r.A9,A7 14 r.A9]=r.A9:=rfl
variable {t:Ty}{i:Nat}
def tyI(h:i<t.D6.length):F7 3 (.list 3 (t.D6.map Ty.A9)) (iI (i:Int))=some (t.kd i).A9:=by rw[J3 h,Ty.UV h]
def C6N(h:0<t.D6.length):F7 3 (.list 3 (t.D6.map Ty.A9)) (iI 0)=some (t.kd 0).A9:=tyI h
def C6O(h:1<t.D6.length):F7 3 (.list 3 (t.D6.map Ty.A9)) (iI 1)=some (t.kd 1).A9:=tyI h
variable {t:Tm}
def tmI(h:i<t.D6.length):F7 20 (.list 20 (t.D6.map Tm.A9)) (iI (i:Int))=some (t.kd i).A9:=by rw[J3 h,Tm.UV h]
def C88(h:0<t.D6.length):F7 20 (.list 20 (t.D6.map Tm.A9)) (iI 0)=some (t.kd 0).A9:=tmI h
def C89(h:1<t.D6.length):F7 20 (.list 20 (t.D6.map Tm.A9)) (iI 1)=some (t.kd 1).A9:=tmI h
def C9a(h:2<t.D6.length):F7 20 (.list 20 (t.D6.map Tm.A9)) (iI 2)=some (t.kd 2).A9:=tmI h
variable (t:Tm)(k:Int)
def kq:D7 .eql (A7 0 t.A9) (iI k)=some (.bool (decide (t.A8=k))):=by rw[Tm.AV,P6]
def kn:D7 .neq (A7 0 t.A9) (iI k)=some (.bool (!decide (t.A8=k))):=by rw[Tm.AV,Z6]
def aq:D7 .eql (A7 11 t.A9) (iI k)=some (.bool (decide (t.a.A8=k))):=by rw[Tm.UW,P6]
def an:D7 .neq (A7 11 t.A9) (iI k)=some (.bool (!decide (t.a.A8=k))):=by rw[Tm.UW,Z6]
def bq:D7 .eql (A7 14 t.A9) (iI k)=some (.bool (decide (t.b.A8=k))):=by rw[Tm.YJ,P6]
def bn:D7 .neq (A7 14 t.A9) (iI k)=some (.bool (!decide (t.b.A8=k))):=by rw[Tm.YJ,Z6]
def abn:D7 .neq (A7 11 t.A9) (A7 14 t.A9)=some (.bool (!decide (t.a.A8=t.b.A8))):=by rw[Tm.UW,Tm.YJ,Z6]
def abq:D7 .eql (A7 11 t.A9) (A7 14 t.A9)=some (.bool (decide (t.a.A8=t.b.A8))):=by rw[Tm.UW,Tm.YJ,P6]
def tq(t:Ty)(k:Int):D7 .eql (A7 0 t.A9) (iI k)=some (.bool (decide (t.A8=k))):=by rw[Ty.AV,P6]
variable {t:Tm}
def x0(h:0<t.D6.length):F7 20 (A7 19 t.A9) (iI 0)=some (t.kd 0).A9:=by rw[Tm.CK,C88 h]
def x1(h:1<t.D6.length):F7 20 (A7 19 t.A9) (iI 1)=some (t.kd 1).A9:=by rw[Tm.CK,C89 h]
def x2(h:2<t.D6.length):F7 20 (A7 19 t.A9) (iI 2)=some (t.kd 2).A9:=by rw[Tm.CK,C9a h]
def xI(h:i<t.D6.length):F7 20 (A7 19 t.A9) (iI (i:Int))=some (t.kd i).A9:=by rw[Tm.CK,tmI h]
def aL(t:Tm):L6 (A7 13 t.A9)=some (iI t.a.D6.length):=by rw[Tm.mR,N8,z3q]
def yI{t:Ty}(h:i<t.D6.length):F7 3 (A7 2 t.A9) (iI (i:Int))=some (t.kd i).A9:=by rw[Ty.En,tyI h]
def aI0(h:0<t.a.D6.length):F7 3 (A7 13 t.A9) (iI 0)=some (t.a.kd 0).A9:=by rw[Tm.mR,C6N h]
def aI1(h:1<t.a.D6.length):F7 3 (A7 13 t.A9) (iI 1)=some (t.a.kd 1).A9:=by rw[Tm.mR,C6O h]
def bI0(h:0<t.b.D6.length):F7 3 (A7 16 t.A9) (iI 0)=some (t.b.kd 0).A9:=by rw[Tm.B4u,C6N h]
def bI1(h:1<t.b.D6.length):F7 3 (A7 16 t.A9) (iI 1)=some (t.b.kd 1).A9:=by rw[Tm.B4u,C6O h]
theorem BK:DV.agg ((iI 0)::(EX []))=Pz.A9:=by rw[Tm.K9];rfl
theorem Cw:DV.agg ((iI 0)::(Dk []))=(Bc 0).A9:=rfl
theorem A4z:DV.agg ((iI k)::(Dk []))=(Bc k).A9:=rfl
theorem B9b(l:Int)(n:Bool):DV.agg ((iI 2)::(qI [iI l,.bool n,iI 0,iI 0,iI 0]))=(B3g l n).A9:=rfl
theorem B7i:DV.agg (Bz [])=O5.A9:=by rw[Ty.K9];rfl
theorem C2P:DV.agg [iI 5,iI 0,.list 3 []]=XG.A9:=by rw[Ty.K9];rfl
def A6w:DV.agg [iI k,iI 0,.list 3 (List.replicate (X3 k).toNat XG.A9)]=(N9 k).A9:=by rw[Ty.K9 (N9 k),N9];simp only[Ty.Cn,Ty.Vn,Ty.U6,List.map_replicate]
def B3q(n:Nat)(h:n<=2)(d:DV):AP 3 (.list 3 (List.replicate n d)) (.list 3 [d])=some (.list 3 (List.replicate (n+1) d)):=by rw[Qu (by simp[J9];omega),List.replicate_succ']
def A9F:C9.p WU [iI 5]=some XG.A9:=by refine(A2P _).trans ?_;rw[A5G];simp[C2P]
def A30{k:Int}(hk:0<=X3 k):C9.p jD [iI k]=some (N9 k).A9:=by
 refine(A8O _).trans ?_;have al:=A6R k;have loop:∀(m j:Nat),(j:Int)+m=X3 k->Zz C9 (iI k) (iI j) (iI k) (.list 3 (List.replicate j XG.A9))=some (N9 k).A9:=by
  intro m;induction m with
  |zero=>
    intro j hj;rw[kC];have:¬(j:Int)<X3 k:=by omega
    simp only[rW,F8,J6,this,R4,E9,z1q,F9];rw[<- A6w,show(X3 k).toNat=j by omega]
  |succ m ih=>
    intro j hj;rw[kC];have:(j:Int)<X3 k:=by omega
    simp only[rW,F8,J6,this,L8,E9,H5,A9F,R9,F4,B3q j (by omega),O8 (show j<9223372036854775807 by omega)]
    exact ih (j+1) (by omega)
 rw[B09];simp only[Gg,F4];exact loop (X3 k).toNat 0 (by omega)
variable {t:Ty}
def Zk(h:t.right=true):C9.p Ov [t.A9]=some (if t.A8≠5/\t.A8≠6 then .I4 [(N9 t.A8).A9,.bool true]else .I4 [O5.A9,.bool false]):=by
 refine(oQ _).trans ?_;have hl:=Ty.Bv h;have al:=A6R t.A8;have loop:∀(m j:Nat),j+m=t.D6.length->Mo C9 (iI t.D6.length) (iI j) (iI t.A8) (.list 3 (List.replicate j XG.A9))=some (.I4 [(N9 t.A8).A9,.bool true]):=by
  intro m;induction m with
  |zero=>
    intro j hj;rw[Qz];have:¬(j:Int)<(t.D6.length:Int):=by omega
    simp only[F8,J6,this,R4,E9,z1q,F9];rw[<- A6w,show(X3 t.A8).toNat=j by omega]
  |succ m ih=>
    intro j hj;rw[Qz];have:(j:Int)<(t.D6.length:Int):=by omega
    simp only[F8,J6,this,L8,E9,H5,C2P,B3q j (by omega),O8 (show j<9223372036854775807 by omega)]
    exact ih (j+1) (by omega)
 have p12:Cq C9 t.A9 (iI t.A8)=some (.I4 [(N9 t.A8).A9,.bool true]):=by rw[fO];simp only[Ty.En,N8,z3q,F8];exact loop t.D6.length 0 (by omega)
 rw[tZ];have hr:1<=t.A8/\t.A8<=9:=by
  unfold X3 at hl
  repeat' split at hl
  all_goals omega
 simp only[R9,F4,Rv,DI t (Ty.R5 h),h,J4,H5,Z6,E9,L8,zgq,z1q,F9];simp only[Ty.AV,Gg,F4,P6,J4,E9,F5,p12,B7i]
 by_cases k:t.A8=5\/t.A8=6
 ·rw[C8 (by omega),C8 (by omega),C8 (by omega),C8 (by omega),C8 (by omega),C8 (by omega),C8 (by omega),C8 (by omega)]
 ·rw[D5 (show t.A8≠5/\t.A8≠6 by omega)]
  repeat' split
  all_goals first | rfl | omega
def B2E(h:t.right=true):C9.p jC [t.A9]=some (if t.A8≠5/\t.A8≠6 then .I4 [(N9 t.A8).A9,.bool true]else .I4 [O5.A9,.bool false]):=by
 have hl:=Ty.Bv h;refine(uk _).trans ?_;rw[zn];simp only[R9,F4,Rv,tq,J4,J5,E9,F5,B7i];rw[Ty.AV,A30 (show 0<=X3 t.A8 by omega)];simp only[J4,R9,F4,Rv]
 by_cases k5:t.A8=5
 ·rw[D5 k5,C8 (λh=>h.1 k5)]
 rw[C8 k5];by_cases k6:t.A8=6
 ·rw[D5 k6,C8 (λh=>h.2 k6)]
 rw[C8 k6,D5 ⟨k5,k6⟩]
def lT(h:t.right=true):(N9 t.A8).thin=true:=Ty.R5 (VI (by have:=Ty.Bv h;omega))
def B9R(t:Ty):t.isG=if t.A8≠5/\t.A8≠6 then decide (N9 t.A8=t)else false:=by
 unfold Ty.isG;by_cases k:t.A8≠5/\t.A8≠6
 ·rw[D5 k];simp[k,eq_comm]
 ·rw[C8 k];simp only[Q8];exact λh=>k ⟨h.1,h.2.1⟩
def A7k(h:t.right=true):C9.p WQ [t.A9]=some (.bool t.isG):=by
 refine(fo _).trans ?_;rw[jv,B9R];simp only[R9,F4,Rv,Zk h,J4]
 by_cases k:t.A8≠5/\t.A8≠6
 ·rw[D5 k,D5 k];simp only[Ct,Cu,J4,R9,F4,J5,H5,Rv,EN _ (lT h)]
 ·rw[C8 k,C8 k];simp only[Ct,Cu,J4,R9,F4,J5,z1q,F9]
def B2G(h:t.right=true):C9.p jF [t.A9]=some (.bool t.isG):=by
 refine(uo _).trans ?_;rw[zy,B9R];simp only[R9,F4,Rv,B2E h,J4]
 by_cases k:t.A8≠5/\t.A8≠6
 ·rw[D5 k,D5 k];simp only[Ct,Cu,J4,R9,F4,J5,H5,Rv,Ig _ (lT h)]
 ·rw[C8 k,C8 k];simp only[Ct,Cu,J4,R9,F4,J5,z1q,F9]
variable {t:Tm}
def B0t(h:t.right=true)(k:t.A8=16):C9.p dA [t.A9]=some (.bool (CB t.a t.b)):=by
 obtain⟨ra,rb,-⟩:=Tm.BG h k;refine(oO _).trans ?_;rw[tQ];unfold CB;simp only[I8,F4,wH,aq,bq,abn,J4,E9,J5,F5,A7k ra,zaq,Q8]
 by_cases b5:t.b.A8=5
 ·rw[D5 b5,D5 b5]
 rw[C8 b5,C8 b5];by_cases ab:t.a.A8=t.b.A8
 ·rw[C8 (λh=>h ab)];by_cases k7:t.a.A8=7
  ·rw[D5 k7];simp[k7,<- ab]
  rw[C8 k7];by_cases k8:t.a.A8=8
  ·rw[D5 k8];simp[<- ab,k8]
  rw[C8 k8];simp[<- ab,k7,k8]
 ·rw[D5 ab];simp[ab]
def all1(h:t.D6.length=1)(f:Tm->Bool):t.D6.all f=f (t.kd 0):=by
 conv=>lhs;rw[Tm.Ib h]
 simp
def all2(h:t.D6.length=2)(f:Tm->Bool):t.D6.all f=(f (t.kd 0)&&f (t.kd 1)):=by
 conv=>lhs;rw[Tm.A4r h]
 simp
def FP(t:Tm):t.right=true->C9.p Dv [t.A9]=some (.bool t.L9):=by
 induction t using Tm.ind with
 |h t ih=>
   intro rt;refine(uf _).trans ?_;rw[zg,Tm.FY];have p11:t.D6.length=2->QE C9 t.A9=some (.bool (t.D6.all Tm.L9)):=by
    intro l2;rw[jy,all2 l2];simp only[x0 (show 0<t.D6.length by omega),x1 (show 1<t.D6.length by omega),J4,U5,ih _ (Tm.U4 (show 0<t.D6.length by omega)) (Tm.AX rt (by omega)),ih _ (Tm.U4 (show 1<t.D6.length by omega)) (Tm.AX rt (by omega)),J5]
    cases(t.kd 0).L9<;>rfl
   simp only[I8,F4,kq,J4,E9,F5,U5]
   by_cases hv:t.A8=2\/t.A8=3\/t.A8=4\/t.A8=5\/t.A8=7\/t.A8=9
   ·rw[D5 hv];rcases hv with h | h | h | h | h | h<;>simp[h]
   rw[C8 hv,C8 (by omega),C8 (by omega),C8 (by omega),C8 (by omega),C8 (by omega),C8 (by omega)];by_cases h6:t.A8=6
   ·rw[D5 h6,D5 (.inl h6),p11 (Tm.EF rt (.inl h6))]
   rw[C8 h6];by_cases h8:t.A8=8
   ·rw[D5 h8,D5 (.inr h8),p11 (Tm.EF rt (.inr (.inl h8)))]
   rw[C8 h8,C8 (show ¬(t.A8=6\/t.A8=8)by omega)];by_cases lU:t.A8=16
   ·have l1:=Tm.B_ rt (.inr lU);rw[D5 lU,D5 lU,all1 l1];simp only[B0t rt lU,J4,J5,x0 (show 0<t.D6.length by omega),U5,ih _ (Tm.U4 (show 0<t.D6.length by omega)) (Tm.AX rt (by omega))]
    cases CB t.a t.b<;>rfl
   ·rw[C8 lU,C8 lU]
def C8P{t:Ty}(h:t.right=true):0<t.D6.length↔(t.A8=7\/t.A8=8\/t.A8=9):=by
 have hl:=Ty.Bv h;unfold X3 at hl;constructor
 ·intro h0
  repeat' split at hl
  all_goals omega
 ·intro k
  repeat' split at hl
  all_goals omega
def TG(t:Tm):t.right=true->C9.p FI [t.A9]=some (.bool t.L9):=by
 induction t using Tm.ind with
 |h t ih=>
   intro rt;refine(oh _).trans ?_;rw[uI,Tm.FY];have p11:t.D6.length=2->OI C9 t.A9=some (.bool (t.D6.all Tm.L9)):=by
    intro l2;rw[fQ,all2 l2];simp only[x0 (show 0<t.D6.length by omega),x1 (show 1<t.D6.length by omega),J4,U5,ih _ (Tm.U4 (show 0<t.D6.length by omega)) (Tm.AX rt (by omega)),ih _ (Tm.U4 (show 1<t.D6.length by omega)) (Tm.AX rt (by omega)),J5]
    cases(t.kd 0).L9<;>rfl
   simp only[I8,F4,kq,J4,E9,F5,U5]
   by_cases hv:t.A8=2\/t.A8=3\/t.A8=4\/t.A8=5\/t.A8=7\/t.A8=9
   ·rw[D5 hv];rcases hv with h | h | h | h | h | h<;>simp[h]
   rw[C8 hv,C8 (by omega),C8 (by omega),C8 (by omega),C8 (by omega),C8 (by omega),C8 (by omega)];by_cases h6:t.A8=6
   ·rw[D5 h6,D5 (.inl h6),p11 (Tm.EF rt (.inl h6))]
   rw[C8 h6];by_cases h8:t.A8=8
   ·rw[D5 h8,D5 (.inr h8),p11 (Tm.EF rt (.inr (.inl h8)))]
   rw[C8 h8,C8 (show ¬(t.A8=6\/t.A8=8)by omega)];by_cases lU:t.A8=16
   ·have l1:=Tm.B_ rt (.inr lU);obtain⟨ra,rb,-⟩:=Tm.BG rt lU;rw[D5 lU,D5 lU,all1 l1];have p14:∀b:Bool,OJ C9 (.bool b) t.A9=some (.bool ((b||(decide (t.b.A8=5)&&t.a.isG))&&(t.kd 0).L9)):=by
     intro b;rw[fT];simp only[J4,J5,bq,wH,B2G ra,x0 (show 0<t.D6.length by omega),U5,ih _ (Tm.U4 (show 0<t.D6.length by omega)) (Tm.AX rt (by omega))]
     cases b<;>cases t.a.isG<;>by_cases b5:t.b.A8=5<;>simp[b5]
    simp only[abq,aL,J4,Ah,p14,J5];have lk:=C8P ra;unfold CB;by_cases ab:t.a.A8=t.b.A8
    ·rw[D5 (by simpa using ab)];by_cases b5:t.b.A8=5
     ·rw[D5 b5];have:¬ 0<t.a.D6.length:=λh=>by have:=lk.1 h;omega
      simp[b5,this]
     ·rw[C8 b5];congr 2;have e:decide ((0:Int)<t.a.D6.length)=decide (t.a.A8=7\/t.a.A8=8\/t.a.A8=9):=by rw[decide_eq_decide];omega
      rw[e];simp[b5,ab]
    ·rw[C8 (by simpa using ab)];by_cases b5:t.b.A8=5
     ·rw[D5 b5];simp[b5]
     ·rw[C8 b5];simp[b5,ab]
   ·rw[C8 lU,C8 lU]
end Go.Su

/-
 The calculus: casts of values; casts one around another.
-/
namespace Go.Su
set_option linter.defProp false
noncomputable def SR.A9:SR->DV
 |.ok t=>.I4 [t.A9,(Bc 0).A9]
 |.fin r=>.I4 [Pz.A9,r.A9]
variable (c:Tm)
theorem C2L(q:Bool)(a b:Ty)(t:Tm):DV.agg ((iI 16)::(Qe (cZ [A7 8 c.A9,.bool q,.list 1 [],A7 0 a.A9,A7 1 a.A9,A7 2 a.A9,A7 0 b.A9,A7 1 b.A9,A7 2 b.A9,.list 3 [],.list 7 [],.list 20 [t.A9]])))=(J8 c q a b t).A9:=by rw[Tm.K9 (J8 c q a b t),Tm.pm,Ty.AV,Ty.Ju,Ty.En,Ty.AV,Ty.Ju,Ty.En];rfl
variable (t:Tm)
theorem B2W:J7 (A7 8 t.A9)=true:=by rw[Tm.pm];rfl
theorem B7r:J7 (A7 9 t.A9)=true:=by rw[Tm.YK];rfl
def A3T(q:Bool)(a b:Ty)(t:Tm):C9.p Eu [c.A9,.bool q,a.A9,b.A9,t.A9]=some (J8 c q a b t).A9:=by refine(A0n _ _ _ _ _).trans ?_;rw[A2b];simp only[I8,R9,F4,B2W,A6x,U5,C2L]
def PU(a b:Ty)(t:Tm):C9.p Eu [c.A9,A7 9 c.A9,a.A9,b.A9,t.A9]=some (J8 c c.neg a b t).A9:=by rw[Tm.YK,A3T]
def Uc(a b:Ty)(t:Tm):C9.p Jh [c.A9,a.A9,b.A9,t.A9]=some (J8 c c.neg a b t).A9:=by refine(A24 _ _ _ _).trans ?_;rw[A5U];simp only[I8,R9,F4,B2W,B7r,U5];rw[Tm.YK,C2L]
theorem Lh:C9.p Bu []=some (SR.fin Bw).A9:=by refine A8j ?_;rw[zb,BK,A4z];rfl
theorem KJ:C9.p Am []=some Bw.A9:=by refine B18 ?_;rw[A5X,A4z];rfl
variable (x:SR)
def SR.mM:K5 0 x.A9=some (match x with | .ok t=>t.A9 | .fin _=>Pz.A9):=by cases x<;>exact Ct _ _
def SR.mO:K5 1 x.A9=some (match x with | .ok _=>(Bc 0).A9 | .fin r=>r.A9):=by cases x<;>exact Cu _ _ _
theorem SR.J_:(ob (K5 0 x.A9) λd=>ob (K5 1 x.A9) λe=>og (E5 20 d)<|og (E5 15 e)<|some (DV.I4 [(DV.agg [A7 0 d,A7 1 d,A7 2 d,A7 3 d,A7 4 d,A7 5 d,A7 6 d,A7 7 d,A7 8 d,A7 9 d,A7 10 d,A7 11 d,A7 12 d,A7 13 d,A7 14 d,A7 15 d,A7 16 d,A7 17 d,A7 18 d,A7 19 d]),(DV.agg [A7 0 e,A7 1 e,A7 2 e,A7 3 e,A7 4 e,A7 5 e,A7 6 e,A7 7 e,A7 8 e,A7 9 e,A7 10 e,A7 11 e,A7 12 e,A7 13 e,A7 14 e])]))=some x.A9:=by rw[SR.mM,SR.mO];cases x<;>simp only[J4,I8,Q5,F4,U5,rsE]<;>rfl
theorem okE:DV.I4 [t.A9,(Bc 0).A9]=(SR.ok t).A9:=rfl
theorem B3J(r:GZ):DV.I4 [Pz.A9,r.A9]=(SR.fin r).A9:=rfl
theorem B4d{t:Ty}:(decide ((t.D6.length:Int)=0))=decide (t.D6=[]):=by
 rw[decide_eq_decide];constructor
 ·intro h;exact zkq (by omega)
 ·intro h;rw[h];rfl
def A08{t v:Tm}(rt:t.right=true)(k:t.A8=16)(rv:v.right=true):C9.p jA [t.A9,v.A9]=some (X9 t v).A9:=by
 obtain⟨ra,rb,-⟩:=Tm.BG rt k;refine(uT _ _).trans ?_;rw[zW];simp only[I8,F4,aL,J4,P6,J5,B4d,F5,wH,tmB,EN _ (Ty.R5 ra),E9,U5,Cw,okE]
 by_cases h0:t.a.D6=[]/\t.a=t.b
 ·rw[D5 h0.1,D5 h0.2];unfold X9;rw[D5 h0]
 ·have e:∀{X:Option DV}(A:Option DV),(if t.a.D6=[]then(if t.a=t.b then A else X)else X)=X:=by
   intro X A;split
   ·split
    ·exact absurd ⟨‹_›,‹_›⟩ h0
    ·rfl
   ·rfl
  rw[e,ny];unfold X9;rw[C8 h0];simp only[wH,tmB,aq,bq,J4,E9,F5,Zk ra,Zk rb,Lh,SR.J_]
  by_cases a5:t.a.A8=5
  ·rw[D5 a5,D5 a5];by_cases b56:t.b.A8=5\/t.b.A8=6
   ·rw[D5 b56,C8 (show ¬(t.b.A8≠5/\t.b.A8≠6)by omega)];simp only[Ct,Cu,J4,R9,F4,P9,E9,zoq,H5]
   rw[C8 b56,D5 (show t.b.A8≠5/\t.b.A8≠6 by omega)];simp only[Ct,Cu,J4,R9,F4,P9,E9,zgq,z1q,F9,Rv,EN _ (Ty.R5 rb),zaq,Q8]
   by_cases bg:t.b=N9 t.b.A8
   ·rw[C8 (λh=>h bg),C8 (λh=>h bg)];simp only[kn,J4,J5,bn,E9,zaq,Q8]
    by_cases v16:v.A8=16
    ·obtain⟨va,vb,-⟩:=Tm.BG rv v16;have l1:=Tm.B_ rv (.inr v16);rw[C8 (λh=>h v16)];by_cases vb5:v.b.A8=5
     ·rw[C8 (λh=>h vb5),C8 (show ¬(v.A8≠16\/v.b.A8≠5)from λh=>h.elim (λh=>h v16) (λh=>h vb5))];simp only[wH,EN _ (Ty.R5 va),J4,E9,F5,x0 (show 0<v.D6.length by omega),U5,Cw,okE,B2W,B7r,F4,BK]
      by_cases vg:v.a=N9 t.b.A8
      ·rw[D5 vg,D5 vg]
      ·rw[C8 vg,C8 vg,Tm.pm,Tm.YK,B9b,B3J]
     ·rw[D5 vb5,D5 (.inr vb5)]
    ·rw[D5 v16,D5 (.inl v16)]
   ·rw[D5 bg,D5 bg];simp only[U5,PU,J4,I8,F4,Cw,okE]
  ·rw[C8 a5,C8 a5];by_cases b5:t.b.A8=5
   ·rw[D5 b5,D5 b5];by_cases a6:t.a.A8=6
    ·rw[D5 a6,C8 (λh=>h.2 a6)];simp only[Ct,Cu,J4,R9,F4,E9,z1q,F9]
    ·rw[C8 a6,D5 ⟨a5,a6⟩];simp only[Ct,Cu,J4,R9,F4,E9,H5,Rv,U5,PU,I8,Cw,okE]
   ·rw[C8 b5,C8 b5]
def A1c{t v:Tm}(rt:t.right=true)(k:t.A8=16)(rv:v.right=true):C9.p jG [t.A9,v.A9]=some (X9 t v).A9:=by
 obtain⟨ra,rb,-⟩:=Tm.BG rt k;have la:=Ty.Bv ra;have lb:=Ty.Bv rb;refine(ut _ _).trans ?_;rw[z_];simp only[I8,F4,aL,J4,P6,J5,B4d,F5,wH,tmB,Ig _ (Ty.R5 ra),E9,U5,Cw,okE]
 by_cases h0:t.a.D6=[]/\t.a=t.b
 ·rw[D5 h0.1,D5 h0.2];unfold X9;rw[D5 h0]
 ·have e:∀{X:Option DV}(A:Option DV),(if t.a.D6=[]then(if t.a=t.b then A else X)else X)=X:=by
   intro X A;split
   ·split
    ·exact absurd ⟨‹_›,‹_›⟩ h0
    ·rfl
   ·rfl
  have dd:t.a.A8=5->t.b.A8≠5:=λa5 b5=>h0 ⟨by rw[Ty.Qv ra a5];rfl,by rw[Ty.Qv ra a5,Ty.Qv rb b5]⟩;rw[e,oI];unfold X9;rw[C8 h0];simp only[aq,bn,J4,J5,E9,F5,zaq,Q8]
  by_cases a5:t.a.A8=5
  ·have b5:=dd a5;rw[D5 a5,D5 a5];by_cases b6:t.b.A8=6
   ·rw[C8 (λh=>h b6),D5 (.inr b6),VU];simp only[bq,J4,J5,F5,KJ,Q5,F4,BK,rsE,B3J];rw[C8 b5]
   rw[D5 b6,C8 (show ¬(t.b.A8=5\/t.b.A8=6)by omega),Tm.YJ,A30 (by omega)];rw[<- Tm.YJ t];simp only[J4,R9,F4,Rv,tmB,Ig _ (lT rb),P9,E9,zaq,Q8]
   by_cases bg:t.b=N9 t.b.A8
   ·rw[C8 (show ¬¬N9 t.b.A8=t.b from λh=>h bg.symm),C8 (show ¬t.b≠N9 t.b.A8 from λh=>h bg)];simp only[kn,J4,J5,bn,E9,zaq,Q8,KJ,Q5,F4,BK,rsE,B3J]
    by_cases v16:v.A8=16
    ·obtain⟨va,vb,-⟩:=Tm.BG rv v16;have l1:=Tm.B_ rv (.inr v16);rw[C8 (λh=>h v16)];by_cases vb5:v.b.A8=5
     ·rw[C8 (λh=>h vb5),C8 (show ¬(v.A8≠16\/v.b.A8≠5)from λh=>h.elim (λh=>h v16) (λh=>h vb5))];simp only[wH,Ig _ (Ty.R5 va),J4,E9,F5,x0 (show 0<v.D6.length by omega),U5,Cw,okE,B2W,B7r,F4,BK]
      by_cases vg:v.a=N9 t.b.A8
      ·rw[D5 vg,D5 vg]
      ·rw[C8 vg,C8 vg,Tm.pm,Tm.YK,B9b,B3J]
     ·rw[D5 vb5,D5 (.inr vb5)]
    ·rw[D5 v16,D5 (.inl v16)]
   ·rw[D5 (λh=>bg h.symm),D5 bg];simp only[wH,tmB,U5,Uc,J4,I8,F4,Cw,okE]
  ·rw[C8 a5,C8 a5,VU];simp only[bq,an,J4,J5,E9,F5,zaq,Q8,KJ,Q5,F4,BK,rsE,B3J]
   by_cases b5:t.b.A8=5
   ·rw[D5 b5,D5 b5];by_cases a6:t.a.A8=6
    ·rw[C8 (λh=>h a6),D5 a6]
    ·rw[D5 a6,C8 a6,Tm.UW,A30 (by omega)];rw[<- Tm.UW t];simp only[J4,R9,F4,Rv,wH,tmB,U5,Uc,I8,Cw,okE]
   ·rw[C8 b5,C8 b5]
end Go.Su

/-
 The calculus: parts of types, chains of casts; one step from a kid's step.
-/
namespace Go.Su
set_option linter.defProp false
variable {i:Nat}
def A3U{y:Ty}(hi:i=0\/i=1)(h:y.A8=8/\i=1\/i<y.D6.length):C9.p KA [y.A9,iI (i:Int)]=some (V3 y i).A9:=by
 refine(A0p _ _).trans ?_;rw[A2d];unfold V3;simp only[R9,F4,tq,J4,J5,F5,P6,E9,Rv]
 by_cases k8:y.A8=8
 ·rw[D5 k8];rcases hi with rfl | rfl
  ·rw[C8 (by decide),C8 (λh=>by cases h.2),yI (show 0<y.D6.length by omega)];simp only[J4,Rv]
  ·rw[D5 (by decide),D5 ⟨k8,rfl⟩]
 ·rw[C8 k8,C8 (λh=>k8 h.1),yI (show i<y.D6.length by omega)];simp only[J4,Rv]
def A6J{y:Ty}(hi:i=0\/i=1)(h:y.A8=8/\i=1\/i<y.D6.length):C9.p gW [y.A9,iI (i:Int)]=some (V3 y i).A9:=by
 refine(A26 _ _).trans ?_;rw[A5W];unfold V3;simp only[R9,F4,tq,J4,J5,F5,P6,E9,Rv]
 by_cases k8:y.A8=8
 ·rw[D5 k8];rcases hi with rfl | rfl
  ·rw[C8 (by decide),C8 (λh=>by cases h.2),yI (show 0<y.D6.length by omega)];simp only[J4,Rv]
  ·rw[D5 (by decide),D5 ⟨k8,rfl⟩]
 ·rw[C8 k8,C8 (λh=>k8 h.1),yI (show i<y.D6.length by omega)];simp only[J4,Rv]
def A9T{t:Tm}(k:t.A8=16)(l1:t.D6.length=1):t.O6=(t.kd 0).O6++[t]/\t.K4=(t.kd 0).K4:=by rw[Tm.jf,Tm.mD,D5 k,D5 k,Tm.Ib l1];exact⟨rfl,rfl⟩
def A12{t:Tm}(k:t.A8≠16):t.O6=[]/\t.K4=t:=by rw[Tm.jf,Tm.mD,C8 k,C8 k];exact⟨rfl,rfl⟩
variable (t:Tm)
theorem B2q:t.right=true->t.O6.length<=J9->∀sg,C9.r Qh [(t.A9,.val)] sg=some ([.list 20 (t.O6.map Tm.A9),t.K4.A9],sg):=by
 induction t using Tm.ind with
 |h t ih=>
   intro rt hs sg;rw[uU,zX];simp only[I8,F4,kn,J4,E9,zaq,Q8,U5]
   by_cases k:t.A8=16
   ·have l1:=Tm.B_ rt (.inr k);obtain⟨c1,c2⟩:=A9T k l1;have hz:(t.kd 0).O6.length+1<=J9:=by rw[c1,zHq]at hs;simpa using hs
    rw[C8 (λh=>h k),x0 (by omega)];simp only[J4,U5,ih _ (Tm.U4 (show 0<t.D6.length by omega)) (Tm.AX rt (by omega)) (by omega) sg,Ct,Cu,I8,F4]
    rw[Cs (by omega)];simp only[J4,c1,c2]
   ·rw[D5 k,(A12 k).1,(A12 k).2];rfl
theorem B2H:t.right=true->t.O6.length<=J9->∀sg,C9.r WZ [(t.A9,.val)] sg=some ([t.K4.A9,.list 20 (t.O6.map Tm.A9)],sg):=by
 induction t using Tm.ind with
 |h t ih=>
   intro rt hs sg;rw[uq,zz];simp only[I8,F4,kn,J4,E9,zaq,Q8,U5]
   by_cases k:t.A8=16
   ·have l1:=Tm.B_ rt (.inr k);obtain⟨c1,c2⟩:=A9T k l1;have hz:(t.kd 0).O6.length+1<=J9:=by rw[c1,zHq]at hs;simpa using hs
    rw[C8 (λh=>h k),x0 (by omega)];simp only[J4,U5,ih _ (Tm.U4 (show 0<t.D6.length by omega)) (Tm.AX rt (by omega)) (by omega) sg,Ct,Cu,I8,F4]
    rw[Cs (by omega)];simp only[J4,c1,c2]
   ·rw[D5 k,(A12 k).1,(A12 k).2];rfl
theorem C85(n:Nat)(y:Tm):X6 [.arr 20 ((t.D6.map Tm.A9).set n y.A9)] [(A7 0 t.A9,H6.val),(A7 1 t.A9,H6.val),(A7 2 t.A9,H6.val),(A7 3 t.A9,H6.val),(A7 4 t.A9,H6.val),(A7 5 t.A9,H6.val),(A7 6 t.A9,H6.val),(A7 7 t.A9,H6.val),(A7 8 t.A9,H6.val),(A7 9 t.A9,H6.val),(A7 10 t.A9,H6.val),(A7 11 t.A9,H6.val),(A7 12 t.A9,H6.val),(A7 13 t.A9,H6.val),(A7 14 t.A9,H6.val),(A7 15 t.A9,H6.val),(A7 16 t.A9,H6.val),(A7 17 t.A9,H6.val),(A7 18 t.A9,H6.val),(.undef,.arr 0 20 0 t.D6.length)]=some [A7 0 (t.AR n y).A9,A7 1 (t.AR n y).A9,A7 2 (t.AR n y).A9,A7 3 (t.AR n y).A9,A7 4 (t.AR n y).A9,A7 5 (t.AR n y).A9,A7 6 (t.AR n y).A9,A7 7 (t.AR n y).A9,A7 8 (t.AR n y).A9,A7 9 (t.AR n y).A9,A7 10 (t.AR n y).A9,A7 11 (t.AR n y).A9,A7 12 (t.AR n y).A9,A7 13 (t.AR n y).A9,A7 14 (t.AR n y).A9,A7 15 (t.AR n y).A9,A7 16 (t.AR n y).A9,A7 17 (t.AR n y).A9,A7 18 (t.AR n y).A9,A7 19 (t.AR n y).A9]:=by
 have hl:((t.D6.map Tm.A9).set n y.A9).length=t.D6.length:=by simp
 have e:(t.D6.map Tm.A9).set n y.A9=(t.D6.set n y).map Tm.A9:=by rw[y5q]
 simp only[X6,V6,J4,CZ,zmq,beq_self_eq_true,F4,zFq,ziq];rw[hl,D5 (zeq _)];simp only[J4];rw[z8q (by omega),e];rw[Tm.K9 (t.AR n y),Tm.K9 t];rfl
def Nz(r:GZ):D7 .neq (A7 0 r.A9) (iI 0)=some (.bool (!decide (r.A8=0))):=by rw[show A7 0 r.A9=.int .i64 r.A8 from rfl,Z6]
theorem C7L(g:List H7):X6 g (zz4 [])=some ((iI 0)::(Dk [])):=rfl
def B7A:NT 1 t.D6=if (t.kd 0).L9=true then none else some 0:=by unfold NT Tm.kd;rw[zdq];cases h:(t.D6[0]?.getD Pz).L9<;>simp[yiq,h]
def C2O:NT 2 t.D6=if (t.kd 0).L9=true then(if (t.kd 1).L9=true then none else some 1)else some 0:=by unfold NT Tm.kd;rw[zdq,zdq];cases h:(t.D6[0]?.getD Pz).L9<;>cases h1:(t.D6[1]?.getD Pz).L9<;>simp[yiq,h,h1]
noncomputable def step2(n i:Nat)(t:Tm):Option DV:=SF C9 (iI (n:Int)) (iI (i:Int)) t.A9
def B0W{n:Nat}(h:i<n):Cf 0 n (iI (i:Int))=some i:=by unfold Cf;simp;omega
theorem B1T{n:Nat}{t:Tm}{x:SR}(hl:i<t.D6.length)(hn:i<n)(hk:t.D6.length<=J9)(rk:(t.kd i).right=true)(hv:(t.kd i).L9=false)(hg:x.good)(hx:C9.p DN [(t.kd i).A9]=some x.A9):
 step2 n i t=some (x.bind λy=>.ok (t.AR i y)).A9:=by
 unfold step2;rw[MC];simp only[J6,J4,E9,F5];rw[D5 (by omega),xI hl];simp only[J4,U5,FP _ rk,hv,E9,z1q,F9,hx,SR.mM,SR.mO];cases x with
 |fin r=>simp only[I8,Q5,F4,Nz,J4,E9,zaq,Q8];rw[D5 (show ¬r.A8=0 from hg)];(try rw[rsE]);(try rw[BK]);rfl
 |ok y=>
   simp only[I8,Q5,F4,Nz,show(Bc 0).A8=0 from rfl,J4,E9,L8,zgq,z1q,F9,U5]
   rw[show aC (A7 19 t.A9)=some (20,t.D6.map Tm.A9)by rw[Tm.CK];rfl];simp only[J4,z3q,beq_self_eq_true,zCq,decide_eq_true hk,F4,B0W hl,zFq];rw[show(t.D6.map Tm.A9)[i]?=some (t.kd i).A9 by rw[ztq,z4q hl,Tm.UV hl];rfl];simp only[J4,C85,C7L,B4C,mi,U5,Cw];rfl
theorem B1U{n:Nat}{t:Tm}(hl:i<t.D6.length)(hn:i<n)(hk:i<100)(rk:(t.kd i).right=true)(hv:(t.kd i).L9=true):step2 n i t=step2 n (i+1) t:=by unfold step2;rw[MC];simp only[J6,J4,E9,F5];rw[D5 (by omega),xI hl];simp only[J4,U5,FP _ rk,hv,E9,H5,Ag];rw[X7 (by omega) (by omega)];rfl
def mq(k:Int):C9.p qJ [iI k]=some (iI (Z9 k:Nat)):=by
 refine(A0o _).trans ?_;rw[A2c];simp only[P6,J4,E9,F5];unfold Z9
 repeat' split
 all_goals first | rfl | omega
end Go.Su

/-
 The calculus: a cast settles; a value's parts.
-/
namespace Go.Su
set_option linter.defProp false
noncomputable section
def aB(t v:Tm):(X9 t v).good:=by
 unfold X9
 repeat' split
 all_goals first
  |trivial
  | (show(6:Int)≠0;omega)
  | (show(2:Int)≠0;omega)
def SR.fold{X:Type}(x:SR)(f:Tm->X)(g:GZ->X):X :=
 match x with
 |.ok t=>f t
 |.fin r=>g r
variable {y:Ty}
def A09(h:y.A8=8/\0=1\/0<y.D6.length):C9.p KA [y.A9,iI 0]=some (V3 y 0).A9:=A3U (i:=0) (.inl rfl) h
def A1a(h:y.A8=8/\1=1\/1<y.D6.length):C9.p KA [y.A9,iI 1]=some (V3 y 1).A9:=A3U (i:=1) (.inr rfl) h
variable {t:Tm}
def B8M(rt:t.right=true)(k:t.A8=16):step2 1 1 t=some (X9 t (t.kd 0)).A9:=by have l1:=Tm.B_ rt (.inr k);unfold step2;rw[MC];simp only[J6,J4,E9,F5,kq];rw[C8 (by omega),C8 (by omega),C8 (by omega),C8 (by omega),C8 (by omega),C8 (by omega),C8 (by omega),D5 k,x0 (by omega)];simp only[J4,U5,A08 rt k (Tm.AX rt (show 0<t.D6.length by omega)),SR.J_]
def B5d(rt:t.right=true)(k:t.A8=16)(hv:(t.kd 0).L9=true):C9.p DN [t.A9]=some t.Ca.A9:=by
 have l1:=Tm.B_ rt (.inr k);refine(VE _).trans ?_;rw[XK];simp only[I8,F4];rw[Tm.AV,mq,k];simp only[J4];have e:t.Ca=X9 t (t.kd 0):=by rw[Tm.Gq,Tm.Ib l1,D5 (by simpa using hv)]
 rw[e];have s:=B1U (n:=1) (i:=0) (t:=t) (by omega) (by omega) (by omega) (Tm.AX rt (by omega)) hv;rw[B8M rt k]at s;exact s
def B5c(rt:t.right=true)(k:t.A8=16)(h:Stp t):C9.p DN [t.A9]=some t.Ca.A9:=by
 rcases h with h | ⟨h1,h2,h3,h4⟩
 ·exact B5d rt k h
 ·have l1:=Tm.B_ rt (.inr k);have l2:=Tm.B_ h3 (.inr h2);refine(VE _).trans ?_;rw[XK];simp only[I8,F4];rw[Tm.AV,mq,k];simp only[J4];have e:t.Ca=(t.kd 0).Ca.bind λx=>.ok (t.AR 0 x):=by rw[Tm.Gq,Tm.Ib l1,C8 (by simp[h1])];rfl
  have e2:(t.kd 0).Ca=X9 (t.kd 0) ((t.kd 0).kd 0):=by rw[Tm.Gq,Tm.Ib l2,D5 (by simpa using h4)]
  rw[e];exact B1T (n:=1) (i:=0) (by omega) (by omega) (by rw[l1];decide) h3 h1 (by rw[e2];exact aB _ _) (B5d h3 h2 h4)
def yU(t:Tm)(k:t.A8=16)(rt:t.right=true)(h:Stp t):t.Ca.good:=by
 have l1:=Tm.B_ rt (.inr k);rcases h with h | ⟨h1,h2,h3,h4⟩
 ·rw[Tm.Gq,Tm.Ib l1,D5 (by simpa using h)];exact aB _ _
 ·have l2:=Tm.B_ h3 (.inr h2);have e2:(t.kd 0).Ca=X9 (t.kd 0) ((t.kd 0).kd 0):=by rw[Tm.Gq,Tm.Ib l2,D5 (by simpa using h4)]
  rw[Tm.Gq,Tm.Ib l1,C8 (by simp[h1])];show((t.kd 0).Ca.bind _).good;rw[e2];have g:=aB (t.kd 0) ((t.kd 0).kd 0);cases hc:X9 (t.kd 0) ((t.kd 0).kd 0)with
  |ok y=>trivial
  |fin r=>rw[hc]at g;exact g
def two(a b:Tm):DV:=.agg [A7 0 a.A9,A7 1 a.A9,A7 2 a.A9,A7 3 a.A9,A7 4 a.A9,A7 5 a.A9,A7 6 a.A9,A7 7 a.A9,A7 8 a.A9,A7 9 a.A9,A7 10 a.A9,A7 11 a.A9,A7 12 a.A9,A7 13 a.A9,A7 14 a.A9,A7 15 a.A9,A7 16 a.A9,A7 17 a.A9,A7 18 a.A9,A7 19 a.A9,A7 0 b.A9,A7 1 b.A9,A7 2 b.A9,A7 3 b.A9,A7 4 b.A9,A7 5 b.A9,A7 6 b.A9,A7 7 b.A9,A7 8 b.A9,A7 9 b.A9,A7 10 b.A9,A7 11 b.A9,A7 12 b.A9,A7 13 b.A9,A7 14 b.A9,A7 15 b.A9,A7 16 b.A9,A7 17 b.A9,A7 18 b.A9,A7 19 b.A9]
def YE(h:y.right=true)(k:y.A8=7\/y.A8=8)(i:Nat)(hi:i<2):i=1/\y.A8=8\/i<y.D6.length:=by
 have hl:=Ty.Bv h;rcases k with k | k
 ·rw[k,show X3 7=2 from rfl]at hl;omega
 ·rw[k,show X3 8=1 from rfl]at hl;omega
theorem C4A(a b:Tm):E5 40 (two a b)=true:=rfl
variable (A8:Int)(L:List Tm)
def A9j(a b:Tm):Option DV:=VN C9 (.list 20 (L.map Tm.A9)) (iI A8) (A7 0 a.A9) (A7 1 a.A9) (A7 2 a.A9) (A7 3 a.A9) (A7 4 a.A9) (A7 5 a.A9) (A7 6 a.A9) (A7 7 a.A9) (A7 8 a.A9) (A7 9 a.A9) (A7 10 a.A9) (A7 11 a.A9) (A7 12 a.A9) (A7 13 a.A9) (A7 14 a.A9) (A7 15 a.A9) (A7 16 a.A9) (A7 17 a.A9) (A7 18 a.A9) (A7 19 a.A9) (A7 0 b.A9) (A7 1 b.A9) (A7 2 b.A9) (A7 3 b.A9) (A7 4 b.A9) (A7 5 b.A9) (A7 6 b.A9) (A7 7 b.A9) (A7 8 b.A9) (A7 9 b.A9) (A7 10 b.A9) (A7 11 b.A9) (A7 12 b.A9) (A7 13 b.A9) (A7 14 b.A9) (A7 15 b.A9) (A7 16 b.A9) (A7 17 b.A9) (A7 18 b.A9) (A7 19 b.A9)
def p9(j:Nat)(a b:Tm):Option DV:=Lm C9 (.list 20 (L.map Tm.A9)) (iI A8) (.list 20 (L.map Tm.A9)) (iI (L.length:Int)) (iI (j:Int)) (A7 0 a.A9) (A7 1 a.A9) (A7 2 a.A9) (A7 3 a.A9) (A7 4 a.A9) (A7 5 a.A9) (A7 6 a.A9) (A7 7 a.A9) (A7 8 a.A9) (A7 9 a.A9) (A7 10 a.A9) (A7 11 a.A9) (A7 12 a.A9) (A7 13 a.A9) (A7 14 a.A9) (A7 15 a.A9) (A7 16 a.A9) (A7 17 a.A9) (A7 18 a.A9) (A7 19 a.A9) (A7 0 b.A9) (A7 1 b.A9) (A7 2 b.A9) (A7 3 b.A9) (A7 4 b.A9) (A7 5 b.A9) (A7 6 b.A9) (A7 7 b.A9) (A7 8 b.A9) (A7 9 b.A9) (A7 10 b.A9) (A7 11 b.A9) (A7 12 b.A9) (A7 13 b.A9) (A7 14 b.A9) (A7 15 b.A9) (A7 16 b.A9) (A7 17 b.A9) (A7 18 b.A9) (A7 19 b.A9)
def p15(j:Nat)(a b x:Tm):Option DV:=OD C9 (.list 20 (L.map Tm.A9)) (iI A8) (.list 20 (L.map Tm.A9)) (iI (L.length:Int)) (iI (j:Int)) (A7 0 a.A9) (A7 1 a.A9) (A7 2 a.A9) (A7 3 a.A9) (A7 4 a.A9) (A7 5 a.A9) (A7 6 a.A9) (A7 7 a.A9) (A7 8 a.A9) (A7 9 a.A9) (A7 10 a.A9) (A7 11 a.A9) (A7 12 a.A9) (A7 13 a.A9) (A7 14 a.A9) (A7 15 a.A9) (A7 16 a.A9) (A7 17 a.A9) (A7 18 a.A9) (A7 19 a.A9) (A7 0 b.A9) (A7 1 b.A9) (A7 2 b.A9) (A7 3 b.A9) (A7 4 b.A9) (A7 5 b.A9) (A7 6 b.A9) (A7 7 b.A9) (A7 8 b.A9) (A7 9 b.A9) (A7 10 b.A9) (A7 11 b.A9) (A7 12 b.A9) (A7 13 b.A9) (A7 14 b.A9) (A7 15 b.A9) (A7 16 b.A9) (A7 17 b.A9) (A7 18 b.A9) (A7 19 b.A9) x.A9
variable {A8:Int}{L:List Tm}{j:Nat}{a:Tm}{b:Tm}
theorem C31{x:Tm}(hj:j<9223372036854775000)(rx:x.right=true)(hv:x.L9=true):p15 A8 L j a b x=p9 A8 L (j+1) x b:=by unfold p15;rw[Tc];simp only[U5,FP x rx,hv,J4,P9,E9,zgq,z1q,F9,Ag];rw[X7 (by omega) (by omega)];rfl
theorem C14{x:Tm}{z:SR}(rx:x.right=true)(hv:x.L9=false)(hz:C9.p DN [x.A9]=some z.A9)(hg:z.good):
 p15 A8 L j a b x=z.fold (λy=>p15 A8 L j a b y) λr=>some (.I4 [two a b,r.A9]):=by
 unfold p15;rw[Tc];simp only[U5,FP x rx,hv,J4,P9,E9,zoq,H5,hz,SR.mM,SR.mO];cases z with
 |fin r=>simp only[I8,Q5,F4,Nz,J4,E9,zaq,Q8];rw[D5 (show ¬r.A8=0 from hg)];(try rw[rsE]);rfl
 |ok y=>
   simp only[I8,Q5,F4,Nz,show(Bc 0).A8=0 from rfl,J4,E9,L8,zgq,z1q,F9]
   rfl
def A9i{A8:Int}{L:List Tm}{j:Nat}{a b:Tm}(hj:j<9223372036854775000):∀(n:Nat){x:Tm},XB n x->p15 A8 L j a b x=(AY n x).fold (λy=>p15 A8 L j a b y) λr=>some (.I4 [two a b,r.A9])
 |0,x,h=>h.elim
 |n+1,x,⟨rx,h⟩=>by
   rcases h with hv | ⟨hv,k16,stp,hy⟩
   ·rw[Ol hv];rfl
   ·rw[C14 rx hv (B5c rx k16 stp) (yU x k16 rx stp),Me hv];cases hs:x.Ca with
    |fin r=>rfl
    |ok y=>exact A9i hj n (hy y hs)
theorem C6l:p9 A8 L L.length a b=A9j A8 L a b:=by unfold p9;rw[Kj];simp only[J6,J4,E9,F5];rw[C8 (by omega)];rfl
theorem C6k(hl:j<L.length)(hj:j<9223372036854775000)(hb:L[j].b.A8=5):p9 A8 L j a b=p9 A8 L (j+1) a b:=by unfold p9;rw[Kj];simp only[J6,J4,E9,F5];rw[D5 (by omega),J3 hl];simp only[J4,bq,hb,L8,E9,H5,Ag];rw[X7 (by omega) (by omega)];rfl
theorem C7G(hl:j<L.length)(hb:L[j].b.A8≠5)(hk:L[j].a.A8≠A8\/L[j].b.A8≠A8):p9 A8 L j a b=some (.I4 [two a b,Bw.A9]):=by
 unfold p9;rw[Kj];simp only[J6,J4,E9,F5];rw[D5 (by omega),J3 hl];simp only[J4,bq,an,bn,hb,R4,E9,J5,z1q,F9,zaq,Q8]
 by_cases h1:L[j].a.A8=A8
 ·rw[C8 (λh=>h h1),D5 (hk.resolve_left λh=>h h1),A4z];rfl
 ·rw[D5 h1,A4z];rfl
theorem C7F(hl:j<L.length)(hb:L[j].b.A8≠5)(ka:L[j].a.A8=A8)(kb:L[j].b.A8=A8)(ha:0=1/\L[j].a.A8=8\/0<L[j].a.D6.length)(HV:0=1/\L[j].b.A8=8\/0<L[j].b.D6.length):
 p9 A8 L j a b=p15 A8 L j a b (J8 L[j] L[j].neg (V3 L[j].a 0) (V3 L[j].b 0) a):=by
 have h5:¬A8=5:=λh=>hb (kb.trans h);unfold p9;rw[Kj];simp only[J6,J4,E9,F5];rw[D5 (by omega),J3 hl];simp only[J4,bq,an,bn,R4,E9,J5,z1q,F9,ka,kb,h5,L8,zgq,wH,tmB,U5];rw[A09 (ha.imp (λh=>⟨h.2,h.1⟩) id),A09 (HV.imp (λh=>⟨h.2,h.1⟩) id)];simp only[J4,PU,I8,F4];rfl
def B0l{Tq:Ty->Prop}{Q:Tm->Prop}(C:CQ Tq Q)(hp:∀y,Tq y->(y.A8=8/\0=1\/0<y.D6.length)->Tq (V3 y 0)){A8:Int}(hk:A8=7\/A8=8){L:List Tm}(hL:L.length<9223372036854775000)(hc:∀c∈L,c.right=true/\c.A8=16/\Tq c.a/\Tq c.b):∀(n j:Nat)(a b:Tm),j+n=L.length->Q a->a.L9=true->
 ∃d,E5 40 d=true/\p9 A8 L j a b=(Bo A8 0 (L.drop j) a).fold (λx=>A9j A8 L x b) λr=>some (.I4 [d,r.A9])
 |0,j,a,b,hj,hq,hv=>by
   have e:j=L.length:=by omega
   subst e;refine⟨two a b,rfl,?_⟩;rw[C6l,zwq];rfl
 |n+1,j,a,b,hj,hq,hv=>by
   have hl:j<L.length:=by omega
   obtain⟨rc,kc,ta,tb⟩:=hc _ (z0q hl);obtain⟨ra,rb,l0,l1⟩:=Tm.BG rc kc;rw[z2q hl,Bo];by_cases b5:L[j].b.A8=5
   ·rw[D5 b5,C6k hl (by omega) b5];exact B0l C hp hk hL hc n (j+1) a b (by omega) hq hv
   rw[C8 b5];by_cases hn:L[j].a.A8≠A8\/L[j].b.A8≠A8
   ·rw[D5 hn,C7G hl b5 hn];exact⟨two a b,rfl,rfl⟩
   rw[C8 hn];have ka:L[j].a.A8=A8:=Classical.byContradiction λh=>hn (.inl h);have kb:L[j].b.A8=A8:=Classical.byContradiction λh=>hn (.inr h);have la:=YE ra (ka ▸ hk) 0 (by decide);have lb:=YE rb (kb ▸ hk) 0 (by decide);obtain⟨st,dn⟩:=bu C (c:=L[j]) (q:=L[j].neg) l0 l1 (hp _ ta (la.imp (λh=>⟨h.2,h.1⟩) id)) (hp _ tb (lb.imp (λh=>⟨h.2,h.1⟩) id)) hq hv;rw[C7F hl b5 ka kb la lb,A9i (by omega) 4 st];cases hs:AY 4 (J8 L[j] L[j].neg (V3 L[j].a 0) (V3 L[j].b 0) a)with
   |fin r=>exact⟨two a b,rfl,rfl⟩
   |ok y=>rw[hs]at dn;show ∃d,E5 40 d=true/\p15 A8 L j a b y=_;rw[C31 (by omega) (C.r _ dn.2) dn.1];exact B0l C hp hk hL hc n (j+1) y b (by omega) dn.2 dn.1
variable (A8:Int)(L:List Tm)
def vY(j:Nat)(a b:Tm):Option DV:=Ka C9 (.list 20 (L.map Tm.A9)) (iI A8) (.list 20 (L.map Tm.A9)) (iI (L.length:Int)) (iI (j:Int)) (A7 0 a.A9) (A7 1 a.A9) (A7 2 a.A9) (A7 3 a.A9) (A7 4 a.A9) (A7 5 a.A9) (A7 6 a.A9) (A7 7 a.A9) (A7 8 a.A9) (A7 9 a.A9) (A7 10 a.A9) (A7 11 a.A9) (A7 12 a.A9) (A7 13 a.A9) (A7 14 a.A9) (A7 15 a.A9) (A7 16 a.A9) (A7 17 a.A9) (A7 18 a.A9) (A7 19 a.A9) (A7 0 b.A9) (A7 1 b.A9) (A7 2 b.A9) (A7 3 b.A9) (A7 4 b.A9) (A7 5 b.A9) (A7 6 b.A9) (A7 7 b.A9) (A7 8 b.A9) (A7 9 b.A9) (A7 10 b.A9) (A7 11 b.A9) (A7 12 b.A9) (A7 13 b.A9) (A7 14 b.A9) (A7 15 b.A9) (A7 16 b.A9) (A7 17 b.A9) (A7 18 b.A9) (A7 19 b.A9)
def yD(j:Nat)(a b x:Tm):Option DV:=Mj C9 (.list 20 (L.map Tm.A9)) (iI A8) (.list 20 (L.map Tm.A9)) (iI (L.length:Int)) (iI (j:Int)) (A7 0 a.A9) (A7 1 a.A9) (A7 2 a.A9) (A7 3 a.A9) (A7 4 a.A9) (A7 5 a.A9) (A7 6 a.A9) (A7 7 a.A9) (A7 8 a.A9) (A7 9 a.A9) (A7 10 a.A9) (A7 11 a.A9) (A7 12 a.A9) (A7 13 a.A9) (A7 14 a.A9) (A7 15 a.A9) (A7 16 a.A9) (A7 17 a.A9) (A7 18 a.A9) (A7 19 a.A9) (A7 0 b.A9) (A7 1 b.A9) (A7 2 b.A9) (A7 3 b.A9) (A7 4 b.A9) (A7 5 b.A9) (A7 6 b.A9) (A7 7 b.A9) (A7 8 b.A9) (A7 9 b.A9) (A7 10 b.A9) (A7 11 b.A9) (A7 12 b.A9) (A7 13 b.A9) (A7 14 b.A9) (A7 15 b.A9) (A7 16 b.A9) (A7 17 b.A9) (A7 18 b.A9) (A7 19 b.A9) x.A9
variable {A8:Int}{L:List Tm}
theorem C15{x:Tm}(hj:j<9223372036854775000)(rx:x.right=true)(hv:x.L9=true):yD A8 L j a b x=vY A8 L (j+1) a x:=by unfold yD;rw[Qw];simp only[U5,FP x rx,hv,J4,P9,E9,zgq,z1q,F9,Ag];rw[X7 (by omega) (by omega)];rfl
theorem C0e{x:Tm}{z:SR}(rx:x.right=true)(hv:x.L9=false)(hz:C9.p DN [x.A9]=some z.A9)(hg:z.good):
 yD A8 L j a b x=z.fold (λy=>yD A8 L j a b y) λr=>some (.I4 [two a b,r.A9]):=by
 unfold yD;rw[Qw];simp only[U5,FP x rx,hv,J4,P9,E9,zoq,H5,hz,SR.mM,SR.mO];cases z with
 |fin r=>simp only[I8,Q5,F4,Nz,J4,E9,zaq,Q8];rw[D5 (show ¬r.A8=0 from hg)];(try rw[rsE]);rfl
 |ok y=>
   simp only[I8,Q5,F4,Nz,show(Bc 0).A8=0 from rfl,J4,E9,L8,zgq,z1q,F9]
   rfl
def A6C{A8:Int}{L:List Tm}{j:Nat}{a b:Tm}(hj:j<9223372036854775000):∀(n:Nat){x:Tm},XB n x->yD A8 L j a b x=(AY n x).fold (λy=>yD A8 L j a b y) λr=>some (.I4 [two a b,r.A9])
 |0,x,h=>h.elim
 |n+1,x,⟨rx,h⟩=>by
   rcases h with hv | ⟨hv,k16,stp,hy⟩
   ·rw[Ol hv];rfl
   ·rw[C0e rx hv (B5c rx k16 stp) (yU x k16 rx stp),Me hv];cases hs:x.Ca with
    |fin r=>rfl
    |ok y=>exact A6C hj n (hy y hs)
theorem C34:vY A8 L L.length a b=some (.I4 [two a b,(Bc 0).A9]):=by unfold vY;rw[Jd];simp only[J6,J4,E9,F5];rw[C8 (by omega)];rw[fM,Cw];rfl
theorem C33(hl:j<L.length)(hj:j<9223372036854775000)(hb:L[j].b.A8=5):vY A8 L j a b=vY A8 L (j+1) a b:=by unfold vY;rw[Jd];simp only[J6,J4,E9,F5];rw[D5 (by omega),J3 hl];simp only[J4,bq,hb,L8,E9,H5,Ag];rw[X7 (by omega) (by omega)];rfl
theorem C6n(hl:j<L.length)(hb:L[j].b.A8≠5)(hk:L[j].a.A8≠A8\/L[j].b.A8≠A8):vY A8 L j a b=some (.I4 [two a b,Bw.A9]):=by
 unfold vY;rw[Jd];simp only[J6,J4,E9,F5];rw[D5 (by omega),J3 hl];simp only[J4,bq,an,bn,hb,R4,E9,J5,z1q,F9,zaq,Q8]
 by_cases h1:L[j].a.A8=A8
 ·rw[C8 (λh=>h h1),D5 (hk.resolve_left λh=>h h1),A4z];rfl
 ·rw[D5 h1,A4z];rfl
theorem C6m(hl:j<L.length)(hb:L[j].b.A8≠5)(ka:L[j].a.A8=A8)(kb:L[j].b.A8=A8)(ha:1=1/\L[j].a.A8=8\/1<L[j].a.D6.length)(HV:1=1/\L[j].b.A8=8\/1<L[j].b.D6.length):
 vY A8 L j a b=yD A8 L j a b (J8 L[j] L[j].neg (V3 L[j].a 1) (V3 L[j].b 1) b):=by
 have h5:¬A8=5:=λh=>hb (kb.trans h);unfold vY;rw[Jd];simp only[J6,J4,E9,F5];rw[D5 (by omega),J3 hl];simp only[J4,bq,an,bn,R4,E9,J5,z1q,F9,ka,kb,h5,L8,zgq,wH,tmB,U5];rw[A1a (ha.imp (λh=>⟨h.2,h.1⟩) id),A1a (HV.imp (λh=>⟨h.2,h.1⟩) id)];simp only[J4,PU,I8,F4];rfl
def A7c{Tq:Ty->Prop}{Q:Tm->Prop}(C:CQ Tq Q)(hp:∀y,Tq y->(y.A8=8/\1=1\/1<y.D6.length)->Tq (V3 y 1)){A8:Int}(hk:A8=7\/A8=8){L:List Tm}(hL:L.length<9223372036854775000)(hc:∀c∈L,c.right=true/\c.A8=16/\Tq c.a/\Tq c.b):∀(n j:Nat)(a b:Tm),j+n=L.length->Q b->b.L9=true->
 ∃d,E5 40 d=true/\vY A8 L j a b=(Bo A8 1 (L.drop j) b).fold (λx=>some (.I4 [two a x,(Bc 0).A9])) λr=>some (.I4 [d,r.A9])
 |0,j,a,b,hj,hq,hv=>by
   have e:j=L.length:=by omega
   subst e;refine⟨two a b,rfl,?_⟩;rw[C34,zwq];rfl
 |n+1,j,a,b,hj,hq,hv=>by
   have hl:j<L.length:=by omega
   obtain⟨rc,kc,ta,tb⟩:=hc _ (z0q hl);obtain⟨ra,rb,l0,l1⟩:=Tm.BG rc kc;rw[z2q hl,Bo];by_cases b5:L[j].b.A8=5
   ·rw[D5 b5,C33 hl (by omega) b5];exact A7c C hp hk hL hc n (j+1) a b (by omega) hq hv
   rw[C8 b5];by_cases hn:L[j].a.A8≠A8\/L[j].b.A8≠A8
   ·rw[D5 hn,C6n hl b5 hn];exact⟨two a b,rfl,rfl⟩
   rw[C8 hn];have ka:L[j].a.A8=A8:=Classical.byContradiction λh=>hn (.inl h);have kb:L[j].b.A8=A8:=Classical.byContradiction λh=>hn (.inr h);have la:=YE ra (ka ▸ hk) 1 (by decide);have lb:=YE rb (kb ▸ hk) 1 (by decide);obtain⟨st,dn⟩:=bu C (c:=L[j]) (q:=L[j].neg) l0 l1 (hp _ ta (la.imp (λh=>⟨h.2,h.1⟩) id)) (hp _ tb (lb.imp (λh=>⟨h.2,h.1⟩) id)) hq hv;rw[C6m hl b5 ka kb la lb,A6C (by omega) 4 st];cases hs:AY 4 (J8 L[j] L[j].neg (V3 L[j].a 1) (V3 L[j].b 1) b)with
   |fin r=>exact⟨two a b,rfl,rfl⟩
   |ok y=>rw[hs]at dn;show ∃d,E5 40 d=true/\yD A8 L j a b y=_;rw[C15 (by omega) (C.r _ dn.2) dn.1];exact A7c C hp hk hL hc n (j+1) a y (by omega) dn.2 dn.1
end
end Go.Su
