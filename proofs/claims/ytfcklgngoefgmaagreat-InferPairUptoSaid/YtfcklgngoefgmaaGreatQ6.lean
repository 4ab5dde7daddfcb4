/-
  Parts of the proof, merged: Q, TN1, TN2, TN3, TN4, TN5, TN6, TN7, TN8, TN9, TN10, TN11, TN12, TN13, TN14, TN15.
-/
import Derived.Test.YtfcklgngoefgmaaGreatQ3
import Derived.Test.YtfcklgngoefgmaaGreatQ4
import Derived.Test.YtfcklgngoefgmaaGreatQ5
set_option linter.defProp false
set_option linter.unusedSectionVars false
set_option linter.unusedSimpArgs false
set_option linter.unusedVariables false
open Bool renaming false_eq_true → z0q, not_true → z5q, not_false → z9q, true_and → zjq, eq_false_iff → zJq, and_eq_true → zQq, eq_iff_iff → zZq, false_and → yoq, or_false → yrq, and_true → ysq
open Int renaming cast_ofNat_Int → zqq, natCast_zero → zBq, ofNat_zero → zHq, toNat_natCast → yfq
open List renaming getD_cons_zero → z1q, getElem?_set_ne → z2q, getElem_mem → z3q, drop_eq_getElem_cons → z4q, getElem?_eq_some_iff → z7q, drop_of_length_le → z8q, getElem?_append_left → zaq, length_map → zbq, drop_zero → zcq, getElem?_eq_getElem → zdq, length_nil → zeq, length_cons → zfq, getD_eq_getElem?_getD → zhq, mem_singleton → ziq, take_succ_eq_append_getElem → zkq, length_append → zlq, not_mem_nil → zmq, mem_append → znq, getElem?_append_right → zoq, mem_cons_self → zpq, mem_cons_of_mem → zrq, nil_append → zsq, map_cons → zuq, take_of_length_le → zvq, getElem?_set → zwq, mem_cons → zxq, getElem?_zipWith → zyq, getElem?_cons_succ → zCq, getElem?_cons_zero → zDq, getElem?_set_self → zEq, map_nil → zGq, mem_take_iff_getElem → zIq, ext_getElem? → zKq, length_set → zLq, sum_cons → zMq, set_set → zNq, length_eq_zero_iff → zRq, eq_nil_of_length_eq_zero → zSq, set_append_right → zTq, length_filter_le → zUq, nodup_iff_pairwise_ne → zWq, length_zipWith → zXq, mem_map_of_mem → zYq, pairwise_iff_getElem → y0q, of_mem_zip → y2q, set_cons_zero → y3q, flatMap_cons → y4q, nodup_append → y5q, append_assoc → y6q, filter_cons → y7q, all_cons → y8q, singleton_append → y9q, map_append → ycq, mem_of_mem_drop → ydq, take_length → yhq, length_drop → yiq, drop_length → yjq, filter_nil → ylq, append_nil → ymq, mem_filter → ynq, nodup_nil → ypq
open Nat renaming lt_of_lt_of_le → z6q, le_refl → zgq, lt_irrefl → ztq, le_of_lt → zFq, le_trans → zOq, zero_add → zPq, sub_self → yaq, lt_of_le_of_lt → yeq, min_le_right → ygq, zero_lt_one → ykq
open Option renaming isSome_none → zzq, isSome_some → zAq, getD_some → zVq, map_some → y1q, map_none → ybq, getD_none → yqq
namespace Go.Su
section
def big{n:Nat}(h:n<=R6):n<4294967297:=by unfold R6 at h;omega
def Ty.B6z{t:Ty}(ht:t.size<=R6):t.D5.length<4294967296:=by have:=t.A1v;have:=big ht;omega
variable (k:Int)
def A8S:C9.p mF [iI k]=some (iI (IJ k)):=by refine(A6b _).trans ?_;rw[A8m];simp[IJ];by_cases h1:k=1<;>by_cases h2:k=2<;>by_cases h3:k=3<;>by_cases h4:k=4<;>by_cases h5:k=5<;>by_cases h6:k=6<;>by_cases h7:k=7<;>by_cases h8:k=8<;>by_cases h9:k=9<;>simp_all
def A7Z:C9.p gW [iI k]=some (iI (IJ k)):=by refine(A4P _).trans ?_;rw[A50];simp[IJ];by_cases h1:k=1<;>by_cases h2:k=2<;>by_cases h3:k=3<;>by_cases h4:k=4<;>by_cases h5:k=5<;>by_cases h6:k=6<;>by_cases h7:k=7<;>by_cases h8:k=8<;>by_cases h9:k=9<;>simp_all
variable (t:Ty)
def A7V:t.thin=true->C9.p XN [t.D9]=some (.bool t.right):=by
 induction t using Ty.ind with
 |h t ih=>
   intro ht;have hb:=t.Gm ht;refine(A4I _).trans ?_;have loop:Jb C9 (iI 0) t.D9=_:=bg (l:=t.D5) (f:=Ty.right) (P:=λi=>Jb C9 (iI i) t.D9) (y:=.bool true) (n:=.bool false)
    (by rw[eQ];simp)
    (λi h=>by rw[eQ];simp[h,V8 h,Ty.AA,Ty.ag,ih _ (z3q h) (Ty.Ih ht (z3q h)),CX (show i<9223372036854775807 by omega)];cases t.D5[i].right<;>rfl)
   rw[A5R];simp only[Az,F8,Ty.CK,Ty.FZ,Ty.Dl,A8S,N7,Hl,Dz,Ie,FN,Q3,F3,loop,Ty.right_eq t,zbq]
   grind
def A70:t.thin=true->C9.p XP [t.D9]=some (.bool t.right):=by
 induction t using Ty.ind with
 |h t ih=>
   intro ht;have hb:=t.Gm ht;refine(A4Q _).trans ?_;have loop:MX C9 (.list 3 (t.D5.map Ty.D9)) (iI t.D5.length) (iI 0)=_:=bg (l:=t.D5) (f:=Ty.right) (P:=λi=>MX C9 (.list 3 (t.D5.map Ty.D9)) (iI t.D5.length) (iI i)) (y:=.bool true) (n:=.bool false)
    (by rw[eZ];simp)
    (λi h=>by rw[eZ];simp[h,V8 h,Ty.AA,Ty.ag,ih _ (z3q h) (Ty.Ih ht (z3q h)),CX (show i<9223372036854775807 by omega)];cases t.D5[i].right<;>rfl)
   rw[A51];simp only[Az,F8,Ty.CK,Ty.FZ,Ty.Dl,A7Z,N7,Hl,Dz,Ie,FN,Wl,QD,BG,Q3,F3,loop,Ty.right_eq t,zbq];have h0:t.E8=6->IJ t.E8=0:=λh=>by rw[h];rfl
   have h7:t.E8=6->IJ t.E8=t.D5.length->t.D5.all Ty.right=true:=λh h'=>by have:t.D5=[]:=zSq (by have:=h0 h;omega);rw[this];rfl
   have h8:(t.D5.length:Int)=IJ t.E8↔IJ t.E8=t.D5.length:=eq_comm;simp only[h8,B8m,B2A];refine B8W ?_;by_cases h1:IJ t.E8=t.D5.length
   ·have h2:¬(IJ t.E8<0):=by omega
    by_cases h4:t.E8=6
    ·simp[h1,h2,h4,h7 h4 h1];omega
    ·by_cases h5:t.n=0<;>simp[h1,h2,h4,h5]
   ·by_cases h2:IJ t.E8<0<;>simp[h1,h2]
theorem Jz(ht:t.thin=true):C9.p OZ [t.D9]=some (iI (if t.right=true then 0 else 1)):=by refine(A4O _).trans ?_;rw[A5Z];simp[Ty.AA,Ty.ag,A70 t ht];cases t.right<;>rfl
def zA(a:Ty):a.thin=true->∀b:Ty,C9.p UG [a.D9,b.D9]=some (.bool (decide (a=b))):=by
 induction a using Ty.ind with
 |h a ih=>
   intro ha b;have hb:=a.Gm ha;refine(A6d _ _).trans ?_;rw[A8o];simp;by_cases h1:a.E8=b.E8<;>simp[h1,Ty.zf];by_cases h2:a.n=b.n<;>simp[h2];by_cases h3:a.D5.length=b.D5.length
   ·have loop:=A6N (l:=a.D5) (m:=b.D5) h3 (P:=λi=>Sr C9 (iI i) a.D9 b.D9) (y:=.bool true) (n:=.bool false)
     (by rw[jk];simp[h3])
     (λi h=>by
       have h':i<b.D5.length:=by omega
       rw[jk];simp[h,h',V8 h,V8 h',Ty.AA,Ty.ag,ih _ (z3q h) (Ty.Ih ha (z3q h)),CX (show i<9223372036854775807 by omega)])
    simp only[h3]at loop ⊢;simp[loop];by_cases h4:a.D5=b.D5<;>simp[h4]
   ·have:a.D5≠b.D5:=λh=>h3 (by rw[h]);simp[Int.ofNat_inj,h3,this]
def vY(a:Ty):a.thin=true->∀b:Ty,C9.p SC [a.D9,b.D9]=some (.bool (decide (a=b))):=by
 induction a using Ty.ind with
 |h a ih=>
   intro ha b;have hb:=a.Gm ha;refine(A4C _ _).trans ?_;rw[A5J];simp;by_cases h1:a.E8=b.E8<;>simp[h1,Ty.zf];by_cases h2:a.n=b.n<;>simp[h2];by_cases h3:a.D5.length=b.D5.length
   ·have loop:=A6N (l:=a.D5) (m:=b.D5) h3 (P:=λi=>Qp C9 (iI i) a.D9 b.D9) (y:=.bool true) (n:=.bool false)
     (by rw[eH];simp[h3])
     (λi h=>by
       have h':i<b.D5.length:=by omega
       rw[eH];simp[h,h',V8 h,V8 h',Ty.AA,Ty.ag,ih _ (z3q h) (Ty.Ih ha (z3q h)),CX (show i<9223372036854775807 by omega)])
    simp only[h3]at loop ⊢;simp[loop];by_cases h4:a.D5=b.D5<;>simp[h4]
   ·have:a.D5≠b.D5:=λh=>h3 (by rw[h]);simp[Int.ofNat_inj,h3,this]
def A27(q:Int)(t:Ty):t.thin=true->C9.p Sn [t.D9,iI q]=some (.bool (t.Fw q)):=by
 induction t using Ty.ind with
 |h t ih=>
   intro ht;have hb:=t.Gm ht;refine(A1k _ _).trans ?_;have loop:Jl C9 (iI q) (.list 3 (t.D5.map Ty.D9)) (iI t.D5.length) (iI 0)=_:=YQ (l:=t.D5) (f:=Ty.Fw q) (P:=λi=>Jl C9 (iI q) (.list 3 (t.D5.map Ty.D9)) (iI t.D5.length) (iI i))
    (by rw[ZE];simp)
    (λi h=>by rw[ZE];simp[h,V8 h,Ty.AA,Ty.ag,ih _ (z3q h) (Ty.Ih ht (z3q h)),CX (show i<9223372036854775807 by omega)];cases(t.D5[i].Fw q)<;>rfl)
   rw[A2s];simp only[loop,Az,F8,Ty.CK,Ty.Dl,N7,Hl,BG,F3,zbq,Ty.Zw q t]
   by_cases h1:t.E8=q<;>simp[h1]
def A25(q:Int)(t:Ty):t.thin=true->C9.p Sk [t.D9,iI q]=some (.bool (t.Fw q)):=by
 induction t using Ty.ind with
 |h t ih=>
   intro ht;have hb:=t.Gm ht;refine(A1g _ _).trans ?_;have loop:Jk C9 (iI q) (iI 0) t.D9=_:=YQ (l:=t.D5) (f:=Ty.Fw q) (P:=λi=>Jk C9 (iI q) (iI i) t.D9)
    (by rw[Y_];simp)
    (λi h=>by rw[Y_];simp[h,V8 h,Ty.AA,Ty.ag,ih _ (z3q h) (Ty.Ih ht (z3q h)),CX (show i<9223372036854775807 by omega)];cases(t.D5[i].Fw q)<;>rfl)
   rw[A2j];simp only[loop,Az,F8,Ty.CK,Ty.Dl,N7,Hl,BG,F3,zbq,Ty.Zw q t]
   by_cases h1:t.E8=q<;>simp[h1]
def qz(ht:t.thin=true):C9.p UK [t.D9]=some (.bool (t.Fw 6)):=by refine(A2B _).trans ?_;rw[A4y];simp[Ty.AA,Ty.ag,A27 6 t ht]
def B3z(l:List Int)(hl:l.length<=R6)(n:Int):C9.p zK [N9 l,iI n]=some (.bool (decide (n∈l))):=by
 have hb:=big hl;refine(B0G _ _).trans ?_;rw[B2n];have loop:=A3M (l:=l) (f:=λx=>decide (x=n)) (P:=λi=>XQ C9 (N9 l) (iI n) (iI i))
  (by rw[uE];simp)
  (λi h=>by rw[uE];simp[h,tZ h,CX (show i<9223372036854775807 by omega)])
 refine loop.trans ?_;congr 2;rw[zZq];simp
def A8U:∀(l:List Int)(sg:List E5),l.length+t.size<=R6->C9.r ZR [(t.D9,.val),(N9 l,.own)] sg=some ([N9 (t.Br l)],sg):=by
 induction t using Ty.ind with
 |h t ih=>
   intro l sg hl;have hb:=Ty.B6z (show t.size<=R6 by omega);have hB:=big hl;refine(A6f _ _ _).trans ?_;have loop:∀l:List Int,l.length+(t.D5.map Ty.size).sum<=R6->OJ C9 (N9 l) (iI 0) t.D9 sg=some ([N9 (t.D5.foldl (λl k=>k.Br l) l)],sg) :=
    fK (l:=t.D5) (P:=λi (a:List Int)=>OJ C9 (N9 a) (iI i) t.D9 sg) (g:=λa k=>k.Br a) (fin:=λa=>some ([N9 a],sg))
     (I:=λi a=>a.length+((t.D5.drop i).map Ty.size).sum<=R6)
     (λa _=>by rw[jm];simp)
     (λi h a ha=>by rw[z4q h,zuq,zMq]at ha;have h1:=Ty.qD t.D5[i] a;refine⟨?_,by omega⟩;rw[jm];simp[h,V8 h,Ty.AA,Ty.ag,ih _ (z3q h) a sg (by omega),CX (show i<9223372036854775807 by omega)])
   have Cz:=Ty.size_eq t;rw[A8q,Ty.gJ];simp;by_cases h6:t.E8=6
   ·simp[h6,B3z l (by omega) t.n];by_cases hn:t.n∈l
    ·simp[hn,Yc,loop l (by omega)]
    ·simp[hn,Yc];rw[show N9 l=.list 1 (l.map λn=>.int .i64 n)from rfl,JW (by simp;omega)];simp;have:=loop (l++[t.n]) (by simp;omega);simpa[N9]using this
   ·simp[h6,Yc,loop l (by omega)]
def zB(ht:t.size<=R6):C9.p ZQ [t.D9]=some (N9 t.vars):=by refine(A6e _).trans ?_;rw[A8p];have:=A8U t [] [] (by simpa using ht);have e:N9 []=.list 1 []:=rfl;rw[e]at this;simp[Ty.AA,Ty.ag,this,Ty.vars]
variable (s:ByteArray)
def A8X:C9.p mI [.str s]=some (.bool (zy s)):=by
 refine(A6k _).trans ?_;rw[A8v];have e:∀l:List UInt8,(s=⟨l.toArray⟩)↔s.data.toList=l:=λl=>by
  constructor
  ·rintro rfl;simp
  ·intro h;cases s;simp only[ByteArray.mk.injEq];exact Array.ext' (by simpa using h)
 simp only[tX,N7,F3];simp only[e,zy,uu,zxq,zmq,or_false];simp only[I6,B9F,B2A,Bool.if_true_left,Bool.decide_or,yrq]
variable (c:Int)
def A41:C9.p aN [.int .u8 c]=some (.bool (RG c)):=by
 refine(A2C _).trans ?_;rw[A4A];simp only[Wl,QD,BG,N7,Q3,I6,RG,GV,tq]
 by_cases h1:97<=c<;>by_cases h2:c<=122<;>by_cases h3:65<=c<;>by_cases h4:c<=90<;>by_cases h5:48<=c<;>by_cases h6:c<=57<;>by_cases h7:c=95<;>simp[h1,h2,h3,h4,h5,h6,h7]
def dH:C9.p SE [.int .u8 c]=some (.bool (GV c)):=by
 refine(A4H _).trans ?_;rw[A5Q];simp only[Wl,QD,N7,Q3,I6,GV]
 by_cases h1:97<=c<;>simp[h1]
def A7U:C9.p gT [.int .u8 c]=some (.bool (tq c)):=by
 refine(A4G _).trans ?_;rw[A5P];simp only[Wl,QD,N7,Q3,I6,tq]
 by_cases h1:48<=c<;>simp[h1]
def A8R:C9.p mE [.int .u8 c]=some (.bool (RG c)):=by
 refine(A6a _).trans ?_;rw[A8l];simp only[Wl,QD,BG,N7,Q3,I6,dH,A7U,RG]
 by_cases h1:GV c=true<;>by_cases h2:tq c=true<;>by_cases h3:65<=c<;>by_cases h4:c<=90<;>by_cases h7:c=95<;>simp[h1,h2,h3,h4,h7]
def A9Z{s:ByteArray}(h:s.size<=R6):(Bq s).length<4294967297:=by rw[Od];exact big h
def dJ(hs:s.size<=R6):C9.p SG [.str s]=some (.bool (KQ s)):=by
 have hb:=A9Z hs;refine(A4R _).trans ?_;rw[A52];simp only[Fy,N7,Ie,FN,Q3,F3,I6,KQ,<- Od]
 by_cases h1:((Bq s).length:Int)<1
 ·have:¬(1<=(Bq s).length):=by omega
  simp[h1,this]
 ·by_cases h2:(32:Int)<((Bq s).length:Int)
  ·have:¬((Bq s).length<=32):=by omega
   simp[h1,h2,this]
  ·have h0:0<(Bq s).length:=by omega
   have e0:=af (s:=s) (k:=.i64) h0;simp only[zBq,zHq,zqq]at e0;have loop:∀(k i:Nat),i+k=(Bq s).length->Qs C9 (.str s) (iI i)=some (.bool (((Bq s).drop i).all RG)):=by
    intro k;induction k with
    |zero=>
      intro i hi;rw[eu];have:¬i<(Bq s).length:=by omega
      simp[<- Od,this,z8q (show(Bq s).length<=i by omega)]
    |succ k ih=>
      intro i hi;have h:i<(Bq s).length:=by omega
      rw[eu];have:=ih (i+1) (by omega);push_cast at this;have P6:(i:Int)<(s.size:Int):=by rw[<- Od];omega
      rw[z4q h,y8q];simp only[Fy,N7,Ie,P6,J9,F3,F6,af h,A41,U2,CX (show i<9223372036854775807 by omega)]
      push_cast;rw[this];cases RG (Bq s)[i]<;>rfl
   have l1:=loop ((Bq s).length-1) 1 (by omega);simp only[Int.natCast_one,Int.ofNat_one,zqq]at l1;have g0:(Bq s).getD 0 0=(Bq s)[0]:=by simp[zhq,h0]
   have d0:Bq s=(Bq s)[0]::(Bq s).drop 1:=by have:=z4q h0;simpa using this
   have a1:(1<=(Bq s).length):=by omega
   have a2:((Bq s).length<=32):=by omega
   have QF:IM (.str s) (iI 0)=some (.int .u8 (Bq s)[0]):=e0;simp only[h1,h2,G9,QF,N7,Ie,FN,Q3,I6,A8X,F3,g0,a1,a2,J9,zjq]
   by_cases h3:(Bq s)[0]<97
   ·have:GV (Bq s)[0]=false:=by simp[GV];omega
    simp[h3,this]
   ·by_cases h4:(122:Int)<(Bq s)[0]
    ·have:GV (Bq s)[0]=false:=by simp[GV];omega
     simp[h3,h4,this]
    ·have h5:GV (Bq s)[0]=true:=by simp[GV];omega
     have h6:RG (Bq s)[0]=true:=by simp[RG,h5]
     have h7:(Bq s).all RG=((Bq s).drop 1).all RG:=by
      conv=>lhs;rw[d0]
      simp[h6]
     cases hk:zy s
     ·simp only[h3,h4,G9,z0q,h5,h7,zjq,z9q,ysq]
      exact l1
     ·simp[h3,h4]
open Classical in
def B1C(hs:s.size<=4294967000):C9.p sN [.str s]=some (.bool (zy s)):=by
 have hb:(Bq s).length<=4294967000:=by rw[Od];exact hs
 refine(A8x _).trans ?_;rw[B0B]
 let t:ByteArray:=⟨#[32]⟩++s++⟨#[32]⟩
 have tl:t.data.toList=32::s.data.toList++[32]:=by simp[t]
 have ts:t.size=s.size+2:=by have:=congrArg List.length tl;simp only[Array.length_toList,zlq,zfq,zeq]at this;have e1:t.size=t.data.size:=rfl;have e2:s.size=s.data.size:=rfl;omega
 have search:∀(k i:Nat),i+k=82->Py C9 (.str s) (.str t) (iI i)=some (.bool (decide (0<s.size/\∃j,i<=j/\j+t.size<=81/\(DZ.drop j).take t.size=t.data.toList))):=by
  intro k;induction k with
  |zero=>
    intro i hi;rw[qV];simp only[Fy,N7];rw[Rv (by omega) (by omega)];have:¬((i:Int)+(t.size:Int)<=81):=by omega
    have h2:¬(0<s.size/\∃j,i<=j/\j+t.size<=81/\(DZ.drop j).take t.size=t.data.toList):=by rintro⟨-,j,h1,h2,-⟩;omega
    simp[this,h2]
  |succ k ih=>
    intro i hi;rw[qV];simp only[Fy,N7];rw[Rv (by omega) (by omega)];by_cases h1:(i:Int)+(t.size:Int)<=81
    ·have h1':i+t.size<=81:=by omega
     have nx:=ih (i+1) (by omega);simp only[QD,h1,J9,N7,F3,F6,FN,Q3,I6];rw[show((i+1:Nat):Int)=(i:Int)+1 by omega]at nx;by_cases h0:(0:Int)<(s.size:Int)
     ·have uZ:0<s.size:=by omega
      have ext:∀w:ByteArray,w.data.toList=DZ->jS (.str w) (some (iI (i:Int))) (some (iI ((i:Int)+(t.size:Int))))=some (.str (w.extract i (i+t.size))):=by
       intro w hw;have hwl:w.size=81:=by have:=congrArg List.length hw;rw[B3L]at this;simpa using this
       have e1:((i:Int)+(t.size:Int)).toNat=i+t.size:=by omega
       simp only[jS,bnd,N7,e1,show(0:Int)<=(i:Int)+(t.size:Int)by omega,F6,Int.natCast_nonneg,yfq,hwl]
       rw[A9 (by omega)]
      simp only[h0,F6];rw[ext _ rfl];simp only[N7,tX,F3,I6];rw[CX (by omega)];simp only[N7];rw[show((i+1:Nat):Int)=(i:Int)+1 by omega,nx];have exl:∀w:ByteArray,w.data.toList=DZ->((w.extract i (i+t.size)=t)↔(DZ.drop i).take t.size=t.data.toList):=by
       intro w hw;have e:(w.extract i (i+t.size)).data.toList=(DZ.drop i).take t.size:=by rw[ByteArray.data_extract,Array.toList_extract,hw,List.extract_eq_take_drop];congr 1;omega
       rw[<- e];constructor
       ·intro h;rw[h]
       ·intro h;cases hx:w.extract i (i+t.size);rw[hx]at h;cases ht:t;rw[ht]at h;simp only[ByteArray.mk.injEq];exact Array.ext' h
      by_cases h2:(DZ.drop i).take t.size=t.data.toList
      ·rw[A9 ((exl _ rfl).2 h2)];have:(0<s.size/\∃j,i<=j/\j+t.size<=81/\(DZ.drop j).take t.size=t.data.toList):=⟨uZ,i,zgq _,h1',h2⟩;simp[this]
      ·rw[A7 (λh=>h2 ((exl _ rfl).1 h))];congr 2;rw[zZq];simp only[I6];constructor
       ·rintro⟨a,j,b,c⟩;exact⟨a,j,by omega,c⟩
       ·rintro⟨a,j,b,c,d⟩;refine⟨a,j,?_,c,d⟩;rcases Nat.lt_or_ge i j with h | h
        ·exact h
        ·exact absurd (by rw[show i=j by omega];exact d) h2
     ·have:¬(0<s.size/\∃j,i<=j/\j+t.size<=81/\(DZ.drop j).take t.size=t.data.toList):=λh=>h0 (by have:=h.1;omega);have B9S:¬(0<s.size/\∃j,i+1<=j/\j+t.size<=81/\(DZ.drop j).take t.size=t.data.toList):=λh=>h0 (by have:=h.1;omega);simp only[h0,G9];rw[CX (by omega)];simp only[N7];rw[show((i+1:Nat):Int)=(i:Int)+1 by omega,nx];simp[this,B9S]
    ·have h2:¬(0<s.size/\∃j,i<=j/\j+t.size<=81/\(DZ.drop j).take t.size=t.data.toList):=by rintro⟨-,j,h3,h4,-⟩;omega
     simp[h1,h2]
 have fin:(s.data.toList.all A0a=true/\0<s.size/\∃j,0<=j/\j+t.size<=81/\(DZ.drop j).take t.size=t.data.toList)↔s.data.toList∈uu:=by
  rw[<- B3K];have e2:s.data.toList.length=s.size:=by simp
  rw[e2,ts,tl];simp
 have low:∀b:UInt8,GV (b.toNat:Int)=A0a b:=by intro b;simp only[GV,A0a,UInt8.le_iff_toNat_le];rw[zZq];simp only[zQq,I6];have h1:(97:UInt8).toNat=97:=rfl;have h2:(122:UInt8).toNat=122:=rfl;rw[h1,h2];omega
 have loop:∀(k i:Nat),i+k=(Bq s).length->UY C9 (.str s) (iI i)=some (.bool (decide (((Bq s).drop i).all GV=true/\0<s.size/\∃j,0<=j/\j+t.size<=81/\(DZ.drop j).take t.size=t.data.toList))):=by
  intro k;induction k with
  |zero=>
    intro i hi;rw[qU];have P6:¬(i:Int)<(s.size:Int):=by rw[<- Od];omega
    have e1:D7 .add (.str ⟨#[32]⟩) (.str s)=some (.str (⟨#[32]⟩++s)):=by simp only[D7,jT];rw[A9];have:(⟨#[32]⟩:ByteArray).size=1:=rfl;unfold R6;omega
    have e2:D7 .add (.str (⟨#[32]⟩++s)) (.str ⟨#[32]⟩)=some (.str t):=by
     simp only[D7,jT];rw[A9];have h1:(⟨#[32]⟩:ByteArray).size=1:=rfl;have h2:(⟨#[32]⟩++s:ByteArray).size=s.size+1:=by have:=ByteArray.size_append (a:=⟨#[32]⟩) (b:=s);omega
     unfold R6;omega
    have:=search 82 0 rfl;simp only[zBq,zHq,zqq]at this;simp only[Fy,N7,Ie,P6,T9,F3,z0q,G9,e1,e2,z8q (show(Bq s).length<=i by omega),List.all_nil,true_and]
    exact this
  |succ k ih=>
    intro i hi;have h:i<(Bq s).length:=by omega
    rw[qU];have:=ih (i+1) (by omega);push_cast at this;have P6:(i:Int)<(s.size:Int):=by rw[<- Od];omega
    rw[z4q h,y8q];simp only[Fy,N7,Ie,P6,J9,F3,F6,af h,dH,U2,CX (show i<9223372036854775807 by omega)]
    push_cast;rw[this];cases GV (Bq s)[i]<;>simp
 have l0:=loop (Bq s).length 0 (by omega);simp only[zBq,zHq,zqq]at l0;have e3:(Bq s).all GV=s.data.toList.all A0a:=by
  simp only[Bq,List.all_map]
  congr 1;funext b;exact low b
 refine l0.trans ?_;rw[zcq,e3];simp only[fin,zy]
def ig(hs:s.size<=4294967000):C9.p Kq [.str s]=some (.bool (KQ s)):=by
 have hb:=A9Z (s:=s) (by unfold R6;omega);refine(A59 _).trans ?_;rw[A8k];have h32:D7 .gtr (iI (s.size:Int)) (iI 32)=some (.bool (decide (32<s.size))):=by rw[FN];congr 2;rw[decide_eq_decide];omega
 simp only[Fy,N7,Ie,h32,Q3,F3,I6,KQ]
 by_cases h1:(s.size:Int)<1
 ·have:¬(1<=s.size):=by omega
  simp[h1,this]
 ·by_cases h2:32<s.size
  ·have:¬(s.size<=32):=by omega
   simp[h1,h2,this]
  ·have h0:0<(Bq s).length:=by rw[Od];omega
   have loop:∀(k i:Nat),i+k=(Bq s).length->Sq C9 (.str s) (iI i)=some (.bool (((Bq s).drop i).all RG&&!zy s)):=by
    intro k;induction k with
    |zero=>
      intro i hi;rw[ji];have P6:¬(i:Int)<(s.size:Int):=by rw[<- Od];omega
      simp[P6,z8q (show(Bq s).length<=i by omega),B1C s hs]
    |succ k ih=>
      intro i hi;have h:i<(Bq s).length:=by omega
      rw[ji];have:=ih (i+1) (by omega);push_cast at this;have P6:(i:Int)<(s.size:Int):=by rw[<- Od];omega
      rw[z4q h,y8q];simp only[Fy,N7,Ie,P6,J9,F3,F6,af h,A8R,U2,CX (show i<9223372036854775807 by omega)]
      push_cast;rw[this];cases RG (Bq s)[i]<;>rfl
   have l0:=loop (Bq s).length 0 (by omega);simp only[zBq,zHq,zqq,zcq]at l0;have g0:(Bq s).getD 0 0=(Bq s)[0]:=by simp[zhq,h0]
   have QF:IM (.str s) (iI 0)=some (.int .u8 (Bq s)[0]):=af (s:=s) (k:=.i64) h0;have a1:(1<=s.size):=by omega
   have a2:(s.size<=32):=by omega
   simp only[h1,h2,G9,QF,N7,dH,U2,F3,g0,a1,a2,J9,zjq,l0];cases GV (Bq s)[0]<;>simp
theorem Bp:(.str ⟨#[]⟩:DV)=.str Y4:=rfl
variable (p:F5)
def A26(hp:p.texts):C9.p YZ [p.D9]=some (.bool p.one):=by
 obtain⟨hn,hs⟩:=hp;have h24:∀(t4:Int)(a b c g:DV)(nm:ByteArray)(n:Int)(s:ByteArray),Ah C9 (iI t4) p.D9 a b c (.str nm) (iI n) (.str s) g =
  some (.bool (decide ((p.D5.length:Int)=t4)&&decide (nm=p.name)&&decide (n=p.n)&&decide (s=p.s))):=by
  intro t4 a b c g nm n s;rw[xN];simp only[F5.oh,F5.MO,F5.fq,F5.xC,Hl,zbq,N7,BG,tX,Q3,I6]
  by_cases h1:(p.D5.length:Int)=t4<;>by_cases h2:nm=p.name<;>by_cases h3:n=p.n<;>simp[h1,h2,h3]
 refine(A1j _).trans ?_;rw[A2m];have Db:D7 .gtr (iI (p.s.size:Int)) (iI 200)=some (.bool (decide (200<p.s.size))):=by rw[FN];congr 2;rw[decide_eq_decide];omega
 simp only[LQ,F8,F5.pj,Nl,VT,XX,BG,Dz,N7,F3,Q3,dJ p.name (by unfold R6;omega),U2,Fy,Db,h24,Bp]
 unfold F5.one;by_cases k1:p.E8=1
 ·simp[k1,eq_comm]
 by_cases k6:p.E8=6
 ·simp[k6,eq_comm]
 by_cases k8:p.E8=8
 ·simp[k8,eq_comm]
 by_cases k2:p.E8=2
 ·cases fH:KQ p.name<;>simp[k2,fH,eq_comm]
 by_cases k3:p.E8=3
 ·simp[k3,eq_comm]
 by_cases k4:p.E8=4
 ·by_cases n0:p.n=0
  ·simp[k4,n0,eq_comm]
  ·by_cases n1:p.n=1<;>simp[k4,n0,n1,eq_comm]
 by_cases k5:p.E8=5
 ·by_cases h:200<p.s.size
  ·have:¬p.s.size<=200:=by omega
   simp[k5,h,this]
  ·have:p.s.size<=200:=by omega
   simp[k5,h,this,eq_comm]
 have h2:decide (2=(p.D5.length:Int))=decide (2=p.D5.length):=by rw[decide_eq_decide];omega
 by_cases k7:p.E8=7
 ·simp[k7,eq_comm,h2]
 by_cases k9:p.E8=9
 ·simp[k9,eq_comm,h2]
 simp[k1,k2,k3,k4,k5,k6,k7,k8,k9]
def B1F:p.thin=true->p.txt->C9.p dV [p.D9]=some (.bool p.pat):=by
 induction p using F5.ind with
 |h p ih=>
   intro ht hx;have hb:=p.Gm ht;obtain⟨hn,hs⟩:=hx p p.B47;have loop:OL C9 (iI p.D5.length) (iI 0) p.D9=some (.bool (p.D5.all F5.pat)) :=
    YQ (l:=p.D5) (f:=F5.pat) (P:=λi=>OL C9 (iI p.D5.length) (iI i) p.D9)
     (by rw[jq];simp)
     (λi h=>by rw[jq];simp[h,V8 h,F5.AA,F5.ag,ih _ (z3q h) (F5.Ih ht (z3q h)) (F5.B7s hx (z3q h)),CX (show i<9223372036854775807 by omega)];cases p.D5[i].pat<;>rfl)
   have h25:∀(t4:Int)(a:DV)(nm:ByteArray)(n:Int)(s:ByteArray),DN C9 (iI t4) p.D9 a (.str nm) (iI n) (.str s) =
    some (.bool ((decide ((p.D5.length:Int)=t4)&&decide (p.name=nm)&&decide (p.n=n)&&decide (p.s=s))&&p.D5.all F5.pat)):=by
    intro t4 a nm n s;rw[A4p];simp only[F5.oh,F5.MO,F5.fq,F5.xC,Hl,zbq,N7,Dz,Td,Q3,F3,I6]
    by_cases h1:(p.D5.length:Int)=t4<;>by_cases h2:p.name=nm<;>by_cases h3:p.n=n<;>by_cases h4:p.s=s<;>simp[h1,h2,h3,h4];rw[<- h1];rw[loop]
   refine(A8B _).trans ?_;rw[B0F];have Db:D7 .gtr (iI (p.s.size:Int)) (iI 200)=some (.bool (decide (200<p.s.size))):=by rw[FN];congr 2;rw[decide_eq_decide];omega
   simp only[LQ,F8,F5.pj,Nl,VT,XX,BG,Dz,Ie,FN,N7,F3,Q3,ig p.name hn,U2,Fy,h25,Bp];rw[F5.lK];unfold F5.one;by_cases k1:p.E8=1
   ·simp[k1]
   by_cases k6:p.E8=6
   ·simp[k6]
   by_cases k8:p.E8=8
   ·simp[k8]
   by_cases k2:p.E8=2
   ·cases fH:KQ p.name<;>simp[k2,fH]
   by_cases k3:p.E8=3
   ·simp[k3]
   by_cases k4:p.E8=4
   ·by_cases n0:p.n<0
    ·have h1:¬(p.n=0\/p.n=1):=by omega
     simp[k4,n0,h1]
    ·by_cases n1:1<p.n
     ·have h1:¬(p.n=0\/p.n=1):=by omega
      simp[k4,n0,n1,h1]
     ·have h1:(p.n=0\/p.n=1):=by omega
      simp[k4,n0,n1,h1]
   by_cases k5:p.E8=5
   ·by_cases h:(200:Int)<(p.s.size:Int)
    ·have:¬p.s.size<=200:=by omega
     simp[k5,h,this]
    ·have:p.s.size<=200:=by omega
     simp[k5,h,this]
   by_cases k7:p.E8=7
   ·simp[k7];have:((p.D5.length:Int)=2)↔(p.D5.length=2):=by omega
    simp[this]
   by_cases k9:p.E8=9
   ·simp[k9];have:((p.D5.length:Int)=2)↔(p.D5.length=2):=by omega
    simp[this]
   simp[k1,k2,k3,k4,k5,k6,k7,k8,k9]
def A7X(t:F5):∀(l:List ByteArray)(sg:List E5),l.length+t.size<=R6->C9.r XO [(t.D9,.val),(Di l,.own)] sg=some ([Di (t.Gf l)],sg):=by
 induction t using F5.ind with
 |h t ih=>
   intro l sg hl;have hb:=F5.Gm _ (F5.Hy (show t.size<=R6 by omega));have hB:=big hl;refine(A4L _ _ _).trans ?_;have loop:∀l:List ByteArray,l.length+(t.D5.map F5.size).sum<=R6->Jc C9 (Di l) (iI 0) t.D9 sg=some ([Di (t.D5.foldl (λl k=>k.Gf l) l)],sg) :=
    fK (l:=t.D5) (P:=λi (a:List ByteArray)=>Jc C9 (Di a) (iI i) t.D9 sg) (g:=λa k=>k.Gf a) (fin:=λa=>some ([Di a],sg))
     (I:=λi a=>a.length+((t.D5.drop i).map F5.size).sum<=R6)
     (λa _=>by rw[eX];simp)
     (λi h a ha=>by rw[z4q h,zuq,zMq]at ha;have h1:=F5.yn t.D5[i] a;refine⟨?_,by omega⟩;rw[eX];simp[h,V8 h,F5.AA,F5.ag,ih _ (z3q h) a sg (by omega),CX (show i<9223372036854775807 by omega)])
   have Cz:=F5.size_eq t;rw[A5U,F5.oN];simp;by_cases h6:t.E8=2
   ·simp[h6];rw[show Di l=.list 1 (l.map λn=>.str n)from rfl,JW (by simp;omega)];have:=loop (l++[t.name]) (by simp;omega);simpa[Di]using this
   ·simp[h6,loop l (by omega)]
def A7W(t:F5)(ht:t.size<=R6):C9.p gU [t.D9]=some (Di t.names):=by refine(A4J _).trans ?_;rw[A5S];have:=A7X t [] [] (by simpa using ht);have e:Di []=.list 1 []:=rfl;rw[e]at this;simp[F5.AA,F5.ag,this,F5.names]
variable (l:List ByteArray)(n:ByteArray)
def Yi:Bool:=l.any λx=>decide (x=n)
def bR{l:List ByteArray}{n:ByteArray}:Yi l n=true↔n∈l:=by simp[Yi]
def B1D(hl:l.length<=R6)(n:ByteArray):C9.p sO [Di l,.str n]=some (.bool (Yi l n)):=by
 have hb:=big hl;refine(A8z _ _).trans ?_;rw[B0D];have loop:=A3M (l:=l) (f:=λx=>decide (x=n)) (P:=λi=>Ua C9 (Di l) (.str n) (iI i))
  (by rw[qW];simp)
  (λi h=>by rw[qW];simp[h,A3s h,CX (show i<9223372036854775807 by omega)])
 exact loop
def B0w{α : Type}{e : α->DV}{l:List α}{i:Nat}(h:i<=l.length)(sz:Nat):OO sz (.list sz (l.map e)) none (some (iI (i:Int)))=some (.list sz ((l.take i).map e)):=by simp[OO,bnd,h,List.map_take]
def B1a{α : Type}[DecidableEq α](l:List α):(∀(i:Nat)(h:i<l.length),l[i]∉l.take i)↔l.Nodup:=by
 constructor
 ·intro h;rw[zWq,y0q];intro i j hi hj Rn he;exact h j hj (by rw[<- he];exact zIq.2 ⟨i,by omega,rfl⟩)
 ·intro h i hi hm;obtain⟨j,hj,he⟩:=zIq.1 hm;rw[zWq,y0q]at h;exact h j i (by omega) hi (by omega) he
open Classical in
def A11(ht:p.size<=R6)(hx:p.txt):C9.p WV [p.D9]=some (.bool p.right):=by
 refine(zh _).trans ?_;rw[A05];have fG:p.names.length<=R6:=by have:=F5.yn p [];simp at this;unfold F5.names;omega
 have hb:=big fG;simp[F5.AA,F5.ag,B1F p (F5.Hy ht) hx,A7W p ht,F5.right];cases hp:p.pat
 ·simp
 ·simp;have loop:∀(k i:Nat),i+k=p.names.length->MI C9 (Di p.names) (iI i)=some (.bool (decide (∀j (h:j<p.names.length),i<=j->p.names[j]∉p.names.take j))):=by
   intro k;induction k with
   |zero=>
     intro i hi;rw[YA];have:¬i<p.names.length:=by omega
     have h2:∀j (h:j<p.names.length),i<=j->p.names[j]∉p.names.take j:=λj h h'=>by omega
     simp[this];exact h2
   |succ k ih=>
     intro i hi;have h:i<p.names.length:=by omega
     have nx:=ih (i+1) (by omega);push_cast at nx;rw[YA];have sl:OO 1 (Di p.names) none (some (iI (i:Int)))=some (Di (p.names.take i)):=B0w (by omega) 1;simp[h,sl,A3s h,B1D (p.names.take i) (by simp;omega),CX (show i<9223372036854775807 by omega),nx];by_cases hm:p.names[i]∈p.names.take i
     ·simp only[bR.2 hm,F6,sF]
      congr 2;symm;rw[QE];exact λhh=>hh i h (zgq _) hm
     ·have WR:¬(Yi (p.names.take i) p.names[i]=true):=λh=>hm (bR.1 h);have C0i:Yi (p.names.take i) p.names[i]=false:=by simpa using WR
      simp only[C0i,z0q,G9]
      congr 2;rw[decide_eq_decide];constructor
      ·intro hh j hj Rn;rcases Nat.lt_or_ge i j with h1 | h1
       ·exact hh j hj h1
       ·have:i=j:=by omega
        subst this;exact hm
      ·intro hh j hj Rn;exact hh j hj (by omega)
  have l0:=loop p.names.length 0 (by omega);simp only[zBq,zHq,zqq]at l0;rw[l0];congr 2;rw[decide_eq_decide,<- B1a];simp
variable (es:List (DV×DV))
def A5A(s:ByteArray):DV:=(V7 es (.str s)).getD (iI 0)
def aa(a b c e:E5)(n:Int)(es:List (DV×DV)):List E5:=[a,.box [(iI n,.val)],.map true es,.box [(.undef,.map 2)],e]
theorem B17(t0 t6:DV)(a b c e:E5)(n:Int)(es:List (DV×DV)):Aw C9 t0 t6 .ret (aa a b c e n es)=some (iI n):=by rw[ZX];rfl
theorem B6h(t0 t6:DV)(a b c e:E5)(n:Int)(es:List (DV×DV)):Aw C9 t0 t6 .normal (aa a b c e n es)=some (iI 0):=by rw[Wp];rfl
def A3p(t0 t6:DV)(a b c e:E5):∀(ps:List F5)(pre:List ByteArray)(es:List (DV×DV)),(∀q∈ps,q.texts)->pre.Nodup->(∀s,A5A es s=.int .i64 (if Yi pre s=true then 1 else 0))->
 Ei C9 t0 t6 (ps.map F5.D9) (aa a b c e 0 es)=some (iI (if ps.all F5.one=true/\(pre++ps.flatMap Ym).Nodup then 0 else 1))
 |[],pre,es,_,hn,_=>by rw[zGq,gX,B6h];simp[hn]
 |q::ps,pre,es,hx,hn,hc=>by
   rw[zuq,dN,jV];have hq:=hx q (zpq ..);simp only[LQ,F8,F5.pj,F5.AA,F5.ag,A26 q hq,N7,U2,Q3,BG];have K4:H5 (aa a b c e 0 es) 1=some [(iI 0,.val)]:=rfl;have dD:H5 (aa a b c e 0 es) 3=some [(.undef,.map 2)]:=rfl;have set1:(aa a b c e 0 es).set 1 (.box ([((iI 0:DV),F4.val)].set 0 (iI 1,.val)))=aa a b c e 1 es:=rfl;have g0:[((iI 0:DV),F4.val)][0]?=some (iI 0,.val):=rfl;have cm:Bn [((.undef:DV),F4.map 2)] 0=some 2:=rfl;have sm:Q5 (aa a b c e 0 es) 2=some (true,es):=rfl;cases h1:q.one
   ·simp only[z9q,F6,K4,N7,g0,set1,B17]
    simp[h1]
   ·simp only[z5q,z0q,G9]
    have rest:∀(pre':List ByteArray)(es':List (DV×DV)),pre'.Nodup->(∀s,A5A es' s=.int .i64 (if Yi pre' s=true then 1 else 0))->
     Ei C9 t0 t6 (ps.map F5.D9) (aa a b c e 0 es')=some (iI (if ps.all F5.one=true/\(pre'++ps.flatMap Ym).Nodup then 0 else 1)) :=
     λpre' es' h h'=>A3p t0 t6 a b c e ps pre' es' (λx FH=>hx x (zrq _ FH)) h h'
    rw[uJ];simp only[F5.CK,F5.MO,BG,N7,F3,I6]
    by_cases h2:q.E8=2
    ·have hcq:=hc q.name;unfold A5A at hcq;have sm':(aa a b c e 0 es).set 2 (.map true (Bb es (.str q.name) (iI 1)))=aa a b c e 0 (Bb es (.str q.name) (iI 1)):=rfl;simp only[h2,F6,dD,N7,cm,B2z,ysq,F8,sm,BEq.rfl,hcq,FN,F3,I6]
     by_cases h3':Yi pre q.name=true
     ·have h3:=bR.1 h3';simp only[h3',F6,show(0:Int)<1 by omega,J9,K4,N7,g0,set1,B17]
      have:¬(pre++(q::ps).flatMap Ym).Nodup:=by simp only[y4q,Ym,h2,F6,y9q,y5q];rintro⟨-,-,h⟩;exact h q.name h3 q.name (zpq ..) rfl
      rw[A7 (λh=>this h.2)]
     ·have h3:q.name∉pre:=λh=>h3' (bR.2 h);simp only[h3',G9,show ¬(0:Int)<0 by omega,T9,z0q]
      rw[Rv (by omega) (by omega)];simp only[N7,Int.zero_add];rw[sm',rest (pre++[q.name]) _ (by rw[y5q];refine⟨hn,by simp,?_⟩;rintro x FH y hy rfl;simp at hy;exact h3 (hy ▸ FH)) ?_]
      ·simp[y4q,Ym,h2,h1]
      ·intro s;unfold A5A;rw[B4K];have:=hc s;unfold A5A at this;by_cases h4:q.name=s
       ·have:Yi (pre++[q.name]) s=true:=bR.2 (by simp[h4]);rw[A9 h4,A9 this];rfl
       ·have e:Yi (pre++[q.name]) s=Yi pre s:=by simp[Yi,h4]
        simp only[A7 h4,e];exact this
    ·simp only[h2,G9]
     rw[rest pre es hn hc];simp[y4q,Ym,h2,h1]
def dI(ht:p.thin=true)(hx:p.txt):C9.p PL [p.D9]=some (iI (if p.right=true then 0 else 1)):=by
 refine(xQ _).trans ?_;rw[zX];simp only[LQ,F8,F5.pj,F5.AA,F5.ag];rw[rZ];obtain⟨n,hn⟩:=B4m p ht;rw[F5.N8]at hn;simp only[H5,zCq,zDq,N7,Mc,F8,A6l hn];have:=A3p p.D9 p.D9 (.box [(iI p.E8,.val),(iI p.lo,.val),(iI p.hi,.val),(.str p.name,.val),(iI p.n,.val),(.str p.s,.val),(.list 7 (p.D5.map F5.D9),.val)])
  (.arr 1 []) (.arr 1 []) (.arr 1 []) p.subs [] [] (λq hq=>hx q hq) (by simp) (λs=>rfl)
 refine this.trans ?_;congr 2;have e:p.right=true↔(p.subs.all F5.one=true/\(([]:List ByteArray)++p.subs.flatMap Ym).Nodup):=by unfold F5.right F5.names;rw[F5.B4Y,F5.A62];simp
 by_cases h:p.right=true
 ·rw[A9 h,A9 (e.1 h)]
 ·rw[A7 h,A7 (λh'=>h (e.2 h'))]
def A8W:∀(i:Nat)(out:List Int)(sg:List E5)(es:List (DV×DV))(c:Int->Int)(B:Int),Q5 sg i=some (false,es)->Sj es c->(∀v,0<=c v/\c v<=B)->(∀v,c v=0↔v∉out)->B+t.Dx<=4611686018427387904->
 out.length+t.Dx<=R6->t.thin=true->∃es' c',C9.r ZW [(t.D9,.val),(.undef,.map i),(N9 out,.own)] sg=some ([N9 (t.Br out)],sg.set i (.map false es'))/\Sj es' c'/\(∀v,0<=c' v/\c' v<=B+t.Dx)/\(∀v,c' v=0↔v∉t.Br out):=by
 induction t using Ty.ind with
 |h t ih=>
   intro i out sg es c B hm hc hb hz hB hl YM;have Gr:=t.Gm YM;have Cz:=Ty.wF t;have hi:=A7C hm;have loop:∀(n j:Nat)(out:List Int)(es:List (DV×DV))(c:Int->Int)(B:Int),j+n=t.D5.length->Sj es c->(∀v,0<=c v/\c v<=B)->(∀v,c v=0↔v∉out)->B+((t.D5.drop j).map Ty.Dx).sum<=4611686018427387904->out.length+((t.D5.drop j).map Ty.Dx).sum<=R6->
    ∃es' c',Sz C9 i (N9 out) (.list 3 (t.D5.map Ty.D9)) (iI t.D5.length) (iI j) (sg.set i (.map false es))=some ([N9 ((t.D5.drop j).foldl (λl k=>k.Br l) out)],sg.set i (.map false es'))/\Sj es' c'/\(∀v,0<=c' v/\c' v<=B+((t.D5.drop j).map Ty.Dx).sum) /\(∀v,c' v=0↔v∉(t.D5.drop j).foldl (λl k=>k.Br l) out):=by
    intro n;induction n with
    |zero=>
      intro j out es c B hj hc hb hz hB hl;have:¬j<t.D5.length:=by omega
      rw[kC,z8q (by omega)];refine⟨es,c,by simp[this],hc,λv=>⟨(hb v).1,by simpa using(hb v).2⟩,by simpa using hz⟩
    |succ n ihn=>
      intro j out es c B hj hc hb hz hB hl;have h:j<t.D5.length:=by omega
      rw[z4q h]at hB hl ⊢;simp only[zuq,zMq,List.foldl_cons]at hB hl ⊢;obtain⟨es1,c1,h1,h2,h3,h4⟩:=ih _ (z3q h) i out (sg.set i (.map false es)) es c B (B3k hi _ _) hc hb hz (by omega) (by omega) (Ty.Ih YM (z3q h));have hv:=Ty.A81 t.D5[j] out;obtain⟨es2,c2,k1,k2,k3,k4⟩:=ihn (j+1) (t.D5[j].Br out) es1 c1 (B+t.D5[j].Dx) (by omega) h2 h3 h4 (by omega) (by omega);refine⟨es2,c2,?_,k2,λv=>⟨(k3 v).1,by have:=(k3 v).2;omega⟩,k4⟩;rw[kC];rw[zNq]at h1;simp[h,V8 h,Ty.AA,Ty.ag,h1,CX (show j<9223372036854775807 by omega)];push_cast at k1;exact k1
   have fin:∀(out:List Int)(es:List (DV×DV))(c:Int->Int)(B:Int),Sj es c->(∀v,0<=c v/\c v<=B)->(∀v,c v=0↔v∉out)->B+(t.D5.map Ty.Dx).sum<=4611686018427387904->out.length+(t.D5.map Ty.Dx).sum<=R6->
    ∃es' c',Pz C9 i (N9 out) t.D9 (sg.set i (.map false es))=some ([N9 (t.D5.foldl (λl k=>k.Br l) out)],sg.set i (.map false es'))/\Sj es' c'/\(∀v,0<=c' v/\c' v<=B+(t.D5.map Ty.Dx).sum)/\(∀v,c' v=0↔v∉t.D5.foldl (λl k=>k.Br l) out):=by
    intro out es c B hc hb hz hB hl;have:=loop t.D5.length 0 out es c B (by omega) hc hb hz (by simpa using hB) (by simpa using hl);simp only[zcq]at this;obtain⟨es',c',k1,k2⟩:=this;refine⟨es',c',?_,k2⟩;rw[A4z];simp;exact k1
   rw[Ty.gJ];by_cases h6:t.E8=6
   ·rw[A9 h6]at Cz;have hcv:=hc t.n;by_cases hn:t.n∈out
    ·have ug:c t.n≠0:=λh=>(hz t.n).1 h hn;obtain⟨es',c',k1,k2,k3,k4⟩:=fin out (Bb es (iI t.n) (iI (c t.n+1))) _ (B+1) (hc.set t.n (c t.n+1)) (λv=>by
      have:=hb v;have:=hb t.n;by_cases e:t.n=v<;>simp[e]<;>omega) (λv=>by
      by_cases e:t.n=v
      ·subst e;simp[hn];have:=hb t.n;omega
      ·simp[e,hz v]) (by omega) (by omega)
     refine⟨es',c',(bC _ _ _ _).trans ?_,k2,λv=>⟨(k3 v).1,by have:=(k3 v).2;omega⟩,by simpa[h6,hn]using k4⟩;rw[iE];have ha:=hb t.n;have VK:D7 .add (iI (c t.n)) (iI 1)=some (iI (c t.n+1)):=Rv (by omega) (by omega);simp[h6,hm,hcv,ug,VK,k1,hn]
    ·have ug:c t.n=0:=(hz t.n).2 hn;obtain⟨es',c',k1,k2,k3,k4⟩:=fin (out++[t.n]) (Bb es (iI t.n) (iI (c t.n+1))) _ (B+1) (hc.set t.n (c t.n+1)) (λv=>by
      have:=hb v;have:=hb t.n;by_cases e:t.n=v<;>simp[e]<;>omega) (λv=>by
      by_cases e:t.n=v
      ·subst e;simp;have:=hb t.n;omega
      ·simp only[e,G9,hz v,znq,ziq];rw[not_or];exact⟨λh=>⟨h,λh'=>e h'.symm⟩,λh=>h.1⟩) (by omega) (by simp;omega)
     refine⟨es',c',(bC _ _ _ _).trans ?_,k2,λv=>⟨(k3 v).1,by have:=(k3 v).2;omega⟩,by simpa[h6,hn]using k4⟩;rw[iE];have ha:=hb t.n;have VK:D7 .add (iI (c t.n)) (iI 1)=some (iI (c t.n+1)):=Rv (by omega) (by omega);have B99:Dh 1 (N9 out) (.list 1 [iI t.n])=some (N9 (out++[t.n])):=zS (e:=λn=>DV.int .i64 n) (by omega);rw[ug]at hcv VK;rw[ug]at k1;rw[show(0:Int)+1=1 from rfl]at VK k1;simp[h6,hm,hcv,B99,VK,hn,k1]
   ·rw[A7 h6]at Cz;obtain⟨es',c',k1,k2,k3,k4⟩:=fin out es c B hc hb hz (by omega) (by omega);refine⟨es',c',(bC _ _ _ _).trans ?_,k2,λv=>⟨(k3 v).1,by have:=(k3 v).2;omega⟩,by simpa[h6]using k4⟩;rw[iE];rw[B49 hm]at k1;simp[h6,k1]
def zH(YM:t.thin=true)(ht:t.Dx<=R6):C9.p ZV [t.D9]=some (N9 t.vars):=by refine(A6j _).trans ?_;rw[A8u];obtain⟨es',c',h,-⟩:=A8W t 0 [] [.map false []] [] (λ_=>0) 0 rfl Sj.nil (by simp) (by simp) (by unfold R6 at ht;omega) (by simpa using ht) YM;have e:N9 []=.list 1 []:=rfl;rw[e]at h;simp[Ty.AA,Ty.ag,h,Ty.vars]
variable (l:List Int)
def A13(hl:l.length<=R6)(n:Int):∃k:Int,C9.p KW [N9 l,iI n]=some (iI k)/\(0<=k↔n∈l):=by
 have hb:=big hl;have loop:∀(m i:Nat),i+m=l.length->∃k:Int,EU C9 (N9 l) (iI n) (iI l.length) (iI i)=some (iI k)/\(0<=k↔n∈l.drop i):=by
  intro m;induction m with
  |zero=>
    intro i hi;have:¬i<l.length:=by omega
    rw[NI];exact⟨-1,by simp[this],by simp[z8q (show l.length<=i by omega)]⟩
  |succ m ihm=>
    intro i hi;have h:i<l.length:=by omega
    rw[NI,z4q h];by_cases e:n=l[i]
    ·exact⟨i,by simp[h,tZ h,e],⟨λ_=>by rw[e];exact zpq ..,λ_=>by omega⟩⟩
    ·obtain⟨k,h1,h2⟩:=ihm (i+1) (by omega);push_cast at h1;refine⟨k,by simp[h,tZ h,e,CX (show i<9223372036854775807 by omega),h1],?_⟩;rw[h2,zxq];simp[e]
 obtain⟨k,h1,h2⟩:=loop l.length 0 (by omega);refine⟨k,(Zb _ _).trans ?_,by simpa using h2⟩;rw[a_];simpa using h1
def ve(hl:l.length<=R6)(n:Int):C9.p Ca [N9 l,iI n]=some (.bool (decide (n∈l))):=by refine(Ws _ _).trans ?_;rw[YC];obtain⟨k,h1,h2⟩:=A13 l hl n;simp[h1,h2]
variable (l:List (Int×Ty))
def wJ:Prop :=
 ∀v,match V7 es (iI v)with
   |none=>∀e∈l,e.1≠v
   |some d=>∃(i:Nat)(h:i<l.length),d=.int .i64 i/\l[i].1=v/\∀j (hj:j<i),(l[j]'(by omega)).1≠v
theorem wJ.look{es:List (DV×DV)}{l:List (Int×Ty)}(h:wJ es l)(v:Int):(V7 es (iI v)=none/\look l v=none)\/∃(i:Nat)(hi:i<l.length),V7 es (iI v)=some (iI i)/\look l v=some l[i].2:=by
 have:=h v;cases hm:V7 es (iI v)with
 |none=>
   rw[hm]at this;left;refine⟨rfl,?_⟩;unfold Su.look;rw[List.find?_eq_none.2]
   ·rfl
   ·intro e he;simpa using this e he
 |some d=>
   rw[hm]at this;obtain⟨i,hi,rfl,h1,h2⟩:=this;right;refine⟨i,hi,rfl,?_⟩;unfold Su.look;have:l.find? (λe=>decide (e.1=v))=some l[i]:=by rw[List.find?_eq_some_iff_getElem];refine⟨by simpa using h1,i,hi,rfl,λj hj=>?_⟩;simpa using h2 j hj
   rw[this];rfl
@[simp] theorem C0I(e:Int×Ty):C8 0 (QG e)=.int .i64 e.1:=rfl
@[simp] theorem C0J(e:Int×Ty):C8 1 (QG e)=.int .i64 e.2.E8:=rfl
@[simp] theorem C0K(e:Int×Ty):C8 2 (QG e)=.int .i64 e.2.n:=rfl
@[simp] theorem C0L(e:Int×Ty):C8 3 (QG e)=.list 3 (e.2.D5.map Ty.D9):=rfl
@[simp] theorem B9E(e:Int×Ty):I5 4 (QG e)=true:=rfl
def A4Y(es:List (DV×DV))(hf:wJ es l)(i:Nat)(sg:List E5)(hm:Q5 sg i=some (false,es))(t:Ty):t.right=true->
 C9.r UH [(t.D9,.val),(IP l,.val),(.undef,.map i)] sg=some ([(t.put l).D9],sg):=by
 induction t using Ty.ind with
 |h t ih=>
   intro ht;have hb:=t.Gm (Ty.rA ht);refine(A2w _ _ _ _).trans ?_;rw[A4q,Ty.put_eq];by_cases h6:t.E8=6
   ·have e6:DV.agg [iI 6,iI t.n,.list 3 (t.D5.map Ty.D9)]=t.D9:=by rw[<- h6];exact Ty.AA t
    rcases hf.look t.n with⟨h1,h2⟩ | ⟨j,hj,h1,h2⟩
    ·simp[h6,hm,h1,h2,e6]
    ·have e1:O0 4 (IP l) (iI (j:Int))=some (QG l[j]):=V8 hj;simp[h6,hm,h1,h2,e1,Ty.AA,Ty.ag]
   ·have loop:=fK (l:=t.D5) (P:=λj (a:List Ty)=>NV C9 (IP l) i (.list 3 (t.D5.map Ty.D9)) (iI t.D5.length) (iI j) (iI t.E8) (.list 3 (a.map Ty.D9)) sg)
     (g:=λa k=>a++[k.put l]) (fin:=λa=>some ([(Ty.mk t.E8 0 a).D9],sg)) (I:=λj a=>a.length=j)
     (λa _=>by rw[ZA];simp[Ty.N8])
     (λj h a ha=>by refine⟨?_,by simp[ha]⟩;rw[ZA];have:=zS (e:=Ty.D9) (sz:=3) (l:=a) (x:=t.D5[j].put l) (by unfold R6;omega);simp[h,V8 h,Ty.AA,Ty.ag,ih _ (z3q h) (Ty.Bf ht (z3q h)),this,CX (show j<9223372036854775807 by omega)]) [] rfl
    have e:∀(m:List Ty)(a:List Ty),m.foldl (λa k=>a++[k.put l]) a=a++m.map (Ty.put l):=by
     intro m;induction m with
     |nil=>intro a;simp
     |cons x m ih=>intro a;simp[ih]
    rw[e]at loop;have hn:t.n=0:=by have:=(Ty.A34.1 ht).2.2.2.1;omega
    by_cases h0:t.D5.length=0
    ·have hk:t.D5=[]:=zSq h0;simp only[A7 h6,hk,zGq,Ty.N8 (Ty.mk t.E8 t.n [])];simp[h6,hk]
     try (rw[Ty.N8 t,hk];rfl)
    ·have uZ:¬((t.D5.length:Int)=0):=by omega
     simp only[zGq,zsq]at loop;have B97:¬t.D5=[]:=λh=>h0 (by rw[h];rfl);simp[h6,uZ,B97,hn,loop]
def A12(ht:t.thin=true)(hl:l.length<=R6)(P6:∀e∈l,e.2.thin=true):
 C9.p WW [t.D9,IP l]=some (if t.right=true/\Ns l=true then .J6 [(t.put l).D9,iI 0]else .J6 [A79.D9,iI 1]):=by
 have hb:=big hl;have z:A79.D9=.agg (Fq []):=by rw[Ty.N8];rfl
 refine(zi _ _).trans ?_;rw[A06];by_cases hr:t.right=true
 ·have loop:∀(m i:Nat)(es:List (DV×DV)),i+m=l.length->wJ es (l.take i)->(l.take i).all (λe=>decide (0<=e.1)&&decide (e.1<=1048576)&&e.2.right)=true->
   Ik C9 (IP l) (IP l) (iI l.length) (iI i) t.D9 [.map false es]=some (if Ns l=true then .J6 [(t.put l).D9,iI 0]else .J6 [A79.D9,iI 1]):=by
   intro m;induction m with
   |zero=>
     intro i es hi hf ha;rw[zvq (by omega)]at hf ha;have:¬i<l.length:=by omega
     rw[YB];have hp:=A4Y l es hf 0 [.map false es] rfl t hr;have ha':Ns l=true:=ha;simp[this,Ty.AA,Ty.ag,hp,ha']
   |succ m ihm=>
     intro i es hi hf ha;have h:i<l.length:=by omega
     have A2H:l[i]∈l:=z3q h;have ha':¬(0<=l[i].1/\l[i].1<=1048576/\l[i].2.right=true)->Ns l=false:=by intro hh;rw[zJq];intro h';exact hh (lU.1 h' _ A2H)
     rw[YB];have e1:O0 4 (IP l) (iI (i:Int))=some (QG l[i]):=V8 h;by_cases h1:l[i].1<0
     ·simp[h,e1,h1,ha' (by omega),z]
     by_cases h2:1048576<l[i].1
     ·simp[h,e1,h1,h2,ha' (by omega),z]
     cases h3:l[i].2.right
     ·simp[h,e1,h1,h2,Ty.AA,Ty.ag,Jz _ (P6 _ A2H),h3,ha' (by simp[h3]),z]
     have hm:Q5 [E5.map false es] 0=some (false,es):=rfl;have bQ:(l.take (i+1)).all (λe=>decide (0<=e.1)&&decide (e.1<=1048576)&&e.2.right)=true:=by
      rw[zkq h,List.all_append,ha];have h1':0<=l[i].1:=by omega
      have Pd:l[i].1<=1048576:=by omega
      simp[h1',Pd,h3]
     have FD:(l.take i).length=i:=by simp;omega
     cases hg:V7 es (iI l[i].1)with
     |none=>
       have nx:=ihm (i+1) (Bb es (iI l[i].1) (iI i)) (by omega) (by
        intro v;rw[fM];by_cases e:l[i].1=v
        ·rw[A9 e];refine⟨i,by simp;omega,rfl,by simpa using e,λj hj=>?_⟩;have:=hf l[i].1;rw[hg]at this;have:=this l[j] (zIq.2 ⟨j,by omega,rfl⟩);simpa[e]using this
        ·rw[A7 e];have:=hf v;cases hv:V7 es (iI v)with
         |none=>
           rw[hv]at this;intro x hx;rw[zkq h,znq,ziq]at hx;rcases hx with hx | rfl
           ·exact this x hx
           ·exact e
         |some d=>rw[hv]at this;obtain⟨k,hk,a,b,c⟩:=this;rw[FD]at hk;refine⟨k,by simp;omega,a,by simpa using b,λj hj=>by simpa using c j hj⟩) bQ
       push_cast at nx;simp[h,e1,h1,h2,Ty.AA,Ty.ag,Jz _ (P6 _ A2H),h3,hm,hg,CX (show i<9223372036854775807 by omega),nx]
     |some d=>
       have nx:=ihm (i+1) es (by omega) (by
        intro v;have:=hf v;cases hv:V7 es (iI v)with
        |none=>
          rw[hv]at this;intro x hx;rw[zkq h,znq,ziq]at hx;rcases hx with hx | rfl
          ·exact this x hx
          ·intro e;rw[e,hv]at hg;cases hg
        |some d=>rw[hv]at this;obtain⟨k,hk,a,b,c⟩:=this;rw[FD]at hk;refine⟨k,by simp;omega,a,by simpa using b,λj hj=>by simpa using c j hj⟩) bQ
       push_cast at nx;simp[h,e1,h1,h2,Ty.AA,Ty.ag,Jz _ (P6 _ A2H),h3,hm,hg,CX (show i<9223372036854775807 by omega),nx]
  have l0:=loop l.length 0 [] (by omega) (λv=>by simp[V7]) (by simp);simp only[zBq,zHq,zqq]at l0;have dl:O6 (IP l)=some (iI l.length):=by simp[IP]
  simp[Ty.AA,Ty.ag,Jz t ht,hr,dl,l0]
 ·simp[Ty.AA,Ty.ag,Jz t ht,hr,z]
variable (n:Int)
def Ty.B6D(a b:Ty):DV.agg [iI k,iI n,.list 3 [a.D9,b.D9]]=(Ty.mk k n [a,b]).D9:=(Ty.N8 (.mk k n [a,b])).symm
def A10(a b:Ty):C9.p Xc [iI k,a.D9,b.D9]=some (Ty.mk k 0 [a,b]).D9:=by refine(A8y _ _ _).trans ?_;rw[B0C];simp[Ty.AA,Ty.ag,Ty.B6D]
def e6:B9k 6:=.inr (.inl rfl)
def Af(np:Nat):DV:=.agg [.bool (AC k),.bool (BV k),.bool (eN k),.bool (eS k),.bool (Dr k),.bool (eA k),.bool (eB k),.bool (Aa k),iI (L9 k np)]
variable (t:Ex)
def A14(ht:t.TL):∃d,C9.p WX [t.D9]=some (.J6 [d,.bool (JX t.E8 t.J7.length)])/\(JX t.E8 t.J7.length=true->d=Af t.E8 t.J7.length)/\I5 9 d=true:=by
 have hp:=big (zFq ht.J7);suffices h:∃d,We C9 t.D9=some (.J6 [d,.bool (JX t.E8 t.J7.length)])/\(JX t.E8 t.J7.length=true->d=Af t.E8 t.J7.length)/\I5 9 d=true by obtain⟨d,h1,h2⟩:=h;exact⟨d,xJ _ h1,h2⟩
 rw[A08];have fl:∀{a b c d e f g h:Bool}{n:Int},I5 9 (.agg [.bool a,.bool b,.bool c,.bool d,.bool e,.bool f,.bool g,.bool h,iI n])=true:=rfl;by_cases k14:t.E8=14
 ·have h1:D7 .add (iI (t.J7.length:Int)) (iI 1)=some (iI ((t.J7.length:Int)+1)):=Rv (by omega) (by omega);simp[k14,h1,JX,Af,AC,BV,eN,eS,Dr,eA,eB,Aa,L9,fl]
 by_cases k1:t.E8=1
 ·simp[k1,JX,Af,AC,BV,eN,eS,Dr,eA,eB,Aa,L9,fl]
 by_cases k2:t.E8=2
 ·simp[k2,JX,Af,AC,BV,eN,eS,Dr,eA,eB,Aa,L9,fl]
 by_cases k3:t.E8=3
 ·simp[k3,JX,Af,AC,BV,eN,eS,Dr,eA,eB,Aa,L9,fl]
 by_cases k4:t.E8=4
 ·simp[k4,JX,Af,AC,BV,eN,eS,Dr,eA,eB,Aa,L9,fl]
 by_cases k5:t.E8=5
 ·simp[k5,JX,Af,AC,BV,eN,eS,Dr,eA,eB,Aa,L9,fl]
 by_cases k6:t.E8=6
 ·simp[k6,JX,Af,AC,BV,eN,eS,Dr,eA,eB,Aa,L9,fl]
 by_cases k7:t.E8=7
 ·simp[k7,JX,Af,AC,BV,eN,eS,Dr,eA,eB,Aa,L9,fl]
 by_cases k8:t.E8=8
 ·simp[k8,JX,Af,AC,BV,eN,eS,Dr,eA,eB,Aa,L9,fl]
 by_cases k9:t.E8=9
 ·simp[k9,JX,Af,AC,BV,eN,eS,Dr,eA,eB,Aa,L9,fl]
 by_cases k10:t.E8=10
 ·simp[k10,JX,Af,AC,BV,eN,eS,Dr,eA,eB,Aa,L9,fl]
 by_cases k11:t.E8=11
 ·simp[k11,JX,Af,AC,BV,eN,eS,Dr,eA,eB,Aa,L9,fl]
 by_cases k12:t.E8=12
 ·simp[k12,JX,Af,AC,BV,eN,eS,Dr,eA,eB,Aa,L9,fl]
 by_cases k13:t.E8=13
 ·simp[k13,JX,Af,AC,BV,eN,eS,Dr,eA,eB,Aa,L9,fl]
 by_cases k15:t.E8=15
 ·simp[k15,JX,Af,AC,BV,eN,eS,Dr,eA,eB,Aa,L9,fl]
 by_cases k16:t.E8=16
 ·simp[k16,JX,Af,AC,BV,eN,eS,Dr,eA,eB,Aa,L9,fl]
 ·have hk:JX t.E8 t.J7.length=false:=by unfold JX;rw[zJq];intro h;simp only[zQq,I6]at h;omega
  simp[hk,k1,k2,k3,k4,k5,k6,k7,k8,k9,k10,k11,k12,k13,k14,k15,k16,fl]
variable (t:Ty)
def vg:C9.p OY [t.D9]=some (.bool t.none):=by refine(A4N _).trans ?_;rw[A5Y];simp[Ty.none];by_cases h1:t.E8=0<;>by_cases h2:t.n=0<;>simp[h1,h2]
def lq(ht:t.thin=true):C9.p Sm [t.D9]=some (.bool t.closed):=by refine(A1i _).trans ?_;rw[A2l];simp[Ty.AA,Ty.ag,Jz t ht,qz t ht,Ty.closed];cases t.right<;>simp
def A8V(t:Ex)(ht:t.TL):C9.p mH [t.D9]=some (.bool t.one):=by
 refine(A6i _).trans ?_;obtain⟨d,h1,h2,h3⟩:=A14 t ht;have hp:=big (zFq ht.J7);rw[A8t];have x0:∀b,Q0 0 (.J6 [d,.bool b])=some d:=λ_=>rfl;have x1:∀b,Q0 1 (.J6 [d,.bool b])=some (.bool b):=λ_=>rfl;simp only[AF,F8,Ex.pj,Ex.AA,Ex.ag,Ty.AA,Ty.ag,h1,x0,x1,N7,h3,U2,Q3];cases hk:JX t.E8 t.J7.length
 ·simp[Ex.one,hk]
 rw[h2 hk];have p0:C8 0 (Af t.E8 t.J7.length)=.bool (AC t.E8):=rfl;have p1:C8 1 (Af t.E8 t.J7.length)=.bool (BV t.E8):=rfl;have p2:C8 2 (Af t.E8 t.J7.length)=.bool (eN t.E8):=rfl;have p3:C8 3 (Af t.E8 t.J7.length)=.bool (eS t.E8):=rfl;have p4:C8 4 (Af t.E8 t.J7.length)=.bool (Dr t.E8):=rfl;have p5:C8 5 (Af t.E8 t.J7.length)=.bool (eA t.E8):=rfl;have p6:C8 6 (Af t.E8 t.J7.length)=.bool (eB t.E8):=rfl;have p7:C8 7 (Af t.E8 t.J7.length)=.bool (Aa t.E8):=rfl;have p8:C8 8 (Af t.E8 t.J7.length)=.int .i64 (L9 t.E8 t.J7.length):=rfl;have l:=YQ (l:=t.J7) (f:=F5.right) (P:=λi=>Qr C9 (.list 7 (t.J7.map F5.D9)) (iI t.J7.length) (iI i))
  (by rw[eY];simp)
  (λi h=>by rw[eY];have f:=ht.pat _ (z3q h);simp[h,V8 h,F5.AA,F5.ag,dI _ (F5.zg f) f.txt,CX (show i<9223372036854775807 by omega)];cases t.J7[i].right<;>rfl)
 have h18:Sy C9 t.D9=some (.bool t.A0h):=by rw[A2r];simp only[Ex.A1L,Hl,zbq,N7];exact l
 have h16:Ke C9 t.D9 (Af t.E8 t.J7.length)=some (.bool t.oV):=by rw[A2q];simp only[p6,Ex.B24,Ex.B25,Ex.B26,Ty.AA,Ty.ag,vg,lq _ ht.b,h18,N7,U2,Q3,F3,Ex.oV,Ve];cases t.b.none<;>cases eB t.E8<;>cases t.b.closed<;>simp
 have h14:Kc C9 t.D9 (Af t.E8 t.J7.length)=some (.bool t.b_):=by rw[A2p];simp only[p5,p7,Ex.B1l,Ex.B5T,Ex.B23,Ty.AA,Ty.ag,vg,lq _ ht.a,h16,N7,U2,Q3,F3,Ex.b_,Ve];cases t.a.none<;>cases eA t.E8<;>cases t.a.closed<;>cases Aa t.E8<;>simp
 have h12:Sw C9 t.D9 (Af t.E8 t.J7.length)=some (.bool t.vM):=by
  rw[A2o];simp only[p4,Ex.B1k,h14,N7,U2,Q3,F3,FN,Ie,Dz,Ex.vM];cases Dr t.E8
  ·by_cases v:t.op=0<;>simp[v]
  ·by_cases a:t.op<1
   ·simp[a,show ¬ 1<=t.op by omega]
   ·by_cases p:7<t.op
    ·simp[a,p,show ¬t.op<=7 by omega]
    ·simp[a,p,show 1<=t.op by omega,show t.op<=7 by omega]
 have hs:∀n:Nat,D7 .gtr (iI (n:Int)) (iI 200)=some (.bool (decide (200<n))):=λn=>by rw[FN];congr 2;rw[decide_eq_decide];omega
 have ZG:Fx C9 t.D9 (Af t.E8 t.J7.length)=some (.bool t.vL):=by
  rw[A2n];simp only[p3,Ex.oh,h12,N7,U2,Q3,F3,Fy,hs,Bp,Td,Ex.vL];generalize t.s.size=z;by_cases a:200<z
  ·have:¬z<=200:=by omega
   cases eS t.E8<;>by_cases v:t.s=Y4<;>simp[a,v,this]
  ·have:z<=200:=by omega
   cases eS t.E8<;>by_cases v:t.s=Y4<;>simp[a,v,this]
 have h8:MW C9 t.D9 (Af t.E8 t.J7.length)=some (.bool t.vK):=by rw[A4w];simp only[p2,Ex.xC,Ex.CK,ZG,N7,U2,Q3,F3,Dz,BG,Ex.vK];cases eN t.E8<;>by_cases v:t.E8=3<;>by_cases x:t.n=0<;>by_cases y:t.n=1<;>simp[v,x,y]
 have h6:MV C9 t.D9 (Af t.E8 t.J7.length)=some (.bool t.vJ):=by
  rw[A4v];simp only[p1,Ex.fq,h8,dJ t.arg (by have:=ht.arg;unfold R6;omega),N7,U2,Q3,F3,Td,Bp,Ex.vJ,Vd]
  cases BV t.E8
  ·by_cases v:t.arg=Y4<;>simp[v]
  ·cases KQ t.arg<;>simp
 have h4:Ug C9 t.D9 (Af t.E8 t.J7.length)=some (.bool t.vI):=by
  rw[A4u];simp only[p0,Ex.MO,h6,dJ t.name (by have:=ht.name;unfold R6;omega),N7,U2,Q3,F3,Td,Bp,Ex.vI,Vd]
  cases AC t.E8
  ·by_cases v:t.name=Y4<;>simp[v]
  ·cases KQ t.name<;>simp
 have hg:D7 .gtr (iI (t.J7.length:Int)) (iI 0)=some (.bool (!decide (t.J7.length=0))):=by
  rw[FN];congr 2;by_cases h:t.J7.length=0
  ·simp[h]
  ·have:(0:Int)<(t.J7.length:Int):=by omega
   simp[h];omega
 simp only[p8,h4,Hl,zbq,N7,Q3,F3,Dz,hg,Ex.one,hk];generalize L9 t.E8 t.J7.length=ek;by_cases v:(t.D5.length:Int)=ek<;>by_cases w:t.E8=14<;>by_cases u:t.J7.length=0<;>simp[v,w,u]
def B9b(a c:E5)(n:Int):List E5:=[a,.box [(iI n,.val)],c]
def A4i(t0 t4:DV)(a c:E5):∀(ps:List Ex),(∀q∈ps,q.TL)->
 Ku C9 t0 t4 (ps.map Ex.D9) (B9b a c 0)=some (iI (if ps.all Ex.one=true then 0 else 1))
 |[],_=>by rw[zGq,rC,ZY];rfl
 |q::ps,h=>by
   rw[zuq,mJ,tu];have hq:=A8V q (h q (zpq ..));have ih:=A4i t0 t4 a c ps λx hx=>h x (zrq _ hx);simp only[AF,F8,Ex.pj,Ex.AA,Ex.ag,hq,N7,U2,F3,ih,y8q];rcases Bool.eq_false_or_eq_true q.one with hq1 | hq1;rotate_left
   ·have K4:H5 (B9b a c 0) 1=some [(iI 0,.val)]:=rfl;have g0:[((iI 0:DV),F4.val)][0]?=some (iI 0,.val):=rfl;simp only[hq1,z9q,F6,K4,N7,g0];rw[h_];rfl
   ·simp[hq1]
def TG(t:Ex)(ht:t.fit):C9.p UJ [t.D9]=some (iI (if t.right=true then 0 else 1)):=by refine(A2y _).trans ?_;rw[A4s];simp only[AF,F8,Ex.pj,Ex.AA,Ex.ag];rw[zY];obtain⟨n,hn⟩:=B6p t ht;rw[Ex.N8]at hn;simp only[H5,zCq,zDq,N7,Mc,F8,A6l hn];rw[Ex.B1t];exact A4i _ _ _ _ t.subs λq hq=>(Ex.B6n ht q hq).one
def A8T:C9.p mG [t.D9]=some (.bool t.none):=by refine(A6c _).trans ?_;rw[A8n];simp[Ty.none];by_cases h1:t.E8=0<;>by_cases h2:t.n=0<;>simp[h1,h2]
def zG(ht:t.thin=true)(may:Bool):C9.p ZU [t.D9,.bool may]=some (.bool (if t.none=true then may else t.closed)):=by refine(A6h _ _).trans ?_;rw[A8s];simp[Ty.AA,Ty.ag,A8T,A7V t ht,A25 6 t ht,Ty.closed];cases t.none<;>cases t.right<;>simp
def KY:Ty:=.mk 0 0 []
def B2Q:(t=KY)↔t.none=true:=Ty.A65.symm
variable (t:Ex)
noncomputable def X0:Ex:=.mk t.E8 0 0 (if AC t.E8=true then t.name else Y4) (if BV t.E8=true then t.arg else Y4) (if eN t.E8=true then t.n else 0) (if eS t.E8=true then t.s else Y4) (if Dr t.E8=true then t.op else 0)
 (if eA t.E8=true then t.a else KY) (if eB t.E8=true then t.b else KY) (if t.E8=14 then t.J7 else[]) []
def FB:Int:=if 1<=t.E8/\t.E8<=16 then L9 t.E8 t.J7.length else -1
def A4X(ht:t.TL):C9.p aL [t.D9]=some (.J6 [(X0 t).D9,iI (FB t)]):=by
 have hp:=big (zFq ht.J7);refine(A2v _).trans ?_;rw[A4o,Ex.N8 (X0 t)];by_cases k14:t.E8=14
 ·have h1:D7 .add (iI 1) (iI (t.J7.length:Int))=some (iI ((t.J7.length:Int)+1)):=by rw[mQ,Gq (by omega) (by omega),Int.add_comm]
  simp[k14,h1,X0,FB,KY,AC,BV,eN,eS,Dr,eA,eB,Aa,L9,Bp]
 by_cases k1:t.E8=1
 ·simp[k1,X0,FB,KY,AC,BV,eN,eS,Dr,eA,eB,Aa,L9,Bp]
 by_cases k2:t.E8=2
 ·simp[k2,X0,FB,KY,AC,BV,eN,eS,Dr,eA,eB,Aa,L9,Bp]
 by_cases k3:t.E8=3
 ·simp[k3,X0,FB,KY,AC,BV,eN,eS,Dr,eA,eB,Aa,L9,Bp]
 by_cases k4:t.E8=4
 ·simp[k4,X0,FB,KY,AC,BV,eN,eS,Dr,eA,eB,Aa,L9,Bp]
 by_cases k5:t.E8=5
 ·simp[k5,X0,FB,KY,AC,BV,eN,eS,Dr,eA,eB,Aa,L9,Bp]
 by_cases k6:t.E8=6
 ·simp[k6,X0,FB,KY,AC,BV,eN,eS,Dr,eA,eB,Aa,L9,Bp]
 by_cases k7:t.E8=7
 ·simp[k7,X0,FB,KY,AC,BV,eN,eS,Dr,eA,eB,Aa,L9,Bp]
 by_cases k8:t.E8=8
 ·simp[k8,X0,FB,KY,AC,BV,eN,eS,Dr,eA,eB,Aa,L9,Bp]
 by_cases k9:t.E8=9
 ·have d1:D7 .sub (iI 9) (iI 9)=some (iI 0):=by rw[Jo,Gq (by omega) (by omega)];rfl
  have d2:D7 .quo (iI 0) (iI 2)=some (iI 0):=rfl;have d3:D7 .add (iI 1) (iI 0)=some (iI 1):=by rw[mQ,Gq (by omega) (by omega)];rfl
  simp only[k9,X0,FB,KY,AC,BV,eN,eS,Dr,eA,eB,Aa,L9,Bp,Ex.CK,AF,F8,Nl,BG,N7,F3];simp[az,d1,d2,d3,k9,Bp]
 by_cases k10:t.E8=10
 ·simp[k10,X0,FB,KY,AC,BV,eN,eS,Dr,eA,eB,Aa,L9,Bp]
 by_cases k11:t.E8=11
 ·have d1:D7 .sub (iI 11) (iI 9)=some (iI 2):=by rw[Jo,Gq (by omega) (by omega)];rfl
  have d2:D7 .quo (iI 2) (iI 2)=some (iI 1):=rfl;have d3:D7 .add (iI 1) (iI 1)=some (iI 2):=by rw[mQ,Gq (by omega) (by omega)];rfl
  simp only[k11,X0,FB,KY,AC,BV,eN,eS,Dr,eA,eB,Aa,L9,Bp,Ex.CK,AF,F8,Nl,BG,N7,F3];simp[az,d1,d2,d3,k11,Bp]
 by_cases k12:t.E8=12
 ·simp[k12,X0,FB,KY,AC,BV,eN,eS,Dr,eA,eB,Aa,L9,Bp]
 by_cases k13:t.E8=13
 ·simp[k13,X0,FB,KY,AC,BV,eN,eS,Dr,eA,eB,Aa,L9,Bp]
 by_cases k15:t.E8=15
 ·simp[k15,X0,FB,KY,AC,BV,eN,eS,Dr,eA,eB,Aa,L9,Bp]
 by_cases k16:t.E8=16
 ·simp[k16,X0,FB,KY,AC,BV,eN,eS,Dr,eA,eB,Aa,L9,Bp]
 ·have hk:¬(1<=t.E8/\t.E8<=16):=by omega
  simp[X0,FB,hk,KY,AC,BV,eN,eS,Dr,eA,eB,k1,k2,k3,k4,k5,k6,k7,k8,k9,k10,k11,k12,k13,k14,k15,k16,Bp]
def Ex.B1h:Bool :=
 if t.E8=1\/t.E8=9\/t.E8=11 then KQ t.name else if t.E8=12 then KQ t.name&&KQ t.arg
 else if t.E8=3 then decide (t.n=0)||decide (t.n=1)else if t.E8=4 then decide (t.s.size<=200)
 else if t.E8=14 then decide (0<t.J7.length)else if t.E8=16 then decide (1<=t.op)&&decide (t.op<=7)else true
def Ex.A7a:Bool:=(if t.a.none=true then !decide (t.E8=15)else t.a.closed)&&(if t.b.none=true then true else t.b.closed)&&t.B1h
noncomputable def Ex.own:Bool:=decide (FB t=(t.D5.length:Int))&&decide (t.name=(X0 t).name)&&decide (t.arg=(X0 t).arg)&&decide (t.n=(X0 t).n)&&decide (t.s=(X0 t).s)&&decide (t.op=(X0 t).op)&&decide (t.J7.length=(X0 t).J7.length) &&decide (t.a=(X0 t).a)&&decide (t.b=(X0 t).b)&&t.A7a
def B1E(ht:t.TL):C9.p sP [t.D9]=some (.bool t.own):=by
 refine(A8A _).trans ?_;have x0:∀a b,Q0 0 (.J6 [a,b])=some a:=λ_ _=>rfl;have x1:∀a b,Q0 1 (.J6 [a,b])=some b:=λ_ _=>rfl;have hg:D7 .gtr (iI (t.J7.length:Int)) (iI 0)=some (.bool (decide (0<t.J7.length))):=by rw[FN];congr 2;rw[decide_eq_decide];omega
 have hs:D7 .leq (iI (t.s.size:Int)) (iI 200)=some (.bool (decide (t.s.size<=200))):=by rw[QD];congr 2;rw[decide_eq_decide];omega
 have h6:gZ C9 t.D9=some (.bool t.A7a):=by
  rw[A5W];simp only[Ex.pj,Ty.AA,Ty.ag,Dz,BG,N7,zG _ ht.a,zG _ ht.b,ig t.name ht.name,ig t.arg ht.arg,U2,Q3,F3,Fy,hs,Hl,zbq,hg,Wl,QD,Ex.A7a,Ex.B1h]
  by_cases c1:(if t.a.none=true then !decide (t.E8=15)else t.a.closed)=true
  ·by_cases c2:(if t.b.none=true then true else t.b.closed)=true
   ·simp only[c1,c2,z5q,z0q,G9,zjq]
    by_cases k1:t.E8=1
    ·simp[k1]
    by_cases k9:t.E8=9
    ·simp[k9]
    by_cases k11:t.E8=11
    ·simp[k11]
    by_cases k12:t.E8=12
    ·simp[k12];cases KQ t.name<;>simp
    by_cases k3:t.E8=3
    ·simp[k3];by_cases n0:t.n=0<;>simp[n0]
    by_cases k4:t.E8=4
    ·simp[k4]
    by_cases k14:t.E8=14
    ·simp[k14]
    by_cases k16:t.E8=16
    ·simp[k16];by_cases o1:1<=t.op<;>simp[o1]
    simp[k1,k9,k11,k12,k3,k4,k14,k16]
   ·have c2':(if t.b.none=true then true else t.b.closed)=false:=zJq.2 c2;simp only[c1,c2',z5q,z0q,G9,z9q,F6,Bool.and_false,yoq]
  ·have c1':(if t.a.none=true then !decide (t.E8=15)else t.a.closed)=false:=zJq.2 c1;simp only[c1',z9q,F6,yoq]
 have h4:gY C9 t.D9 (X0 t).D9=some (.bool (decide (t.a=(X0 t).a)&&decide (t.b=(X0 t).b)&&t.A7a)):=by
  rw[A5V];simp only[Ex.pj,Ty.AA,Ty.ag,zA _ ht.a,zA _ ht.b,N7,U2,Q3,F3,h6]
  by_cases a1:t.a=(X0 t).a<;>by_cases a2:t.b=(X0 t).b<;>simp[a1,a2]
 rw[B0E];simp only[AF,F8,Ex.pj,Ex.AA,Ex.ag,A4X t ht,x0,x1,N7,Hl,zbq,Dz,Td,Q3,F3,h4,Ex.own]
 by_cases a1:FB t=(t.D5.length:Int)<;>simp[a1];by_cases a2:t.name=(X0 t).name<;>simp[a2];by_cases a3:t.arg=(X0 t).arg<;>simp[a3];by_cases a4:t.n=(X0 t).n<;>simp[a4];by_cases a5:t.s=(X0 t).s<;>simp[a5];by_cases a6:t.op=(X0 t).op<;>simp[a6];by_cases a7:t.J7.length=(X0 t).J7.length
 ·have a7':(t.J7.length:Int)=((X0 t).J7.length:Int):=by omega
  simp[a7]
 ·have a7':¬(t.J7.length:Int)=((X0 t).J7.length:Int):=by omega
  simp[a7,a7']
def Ex.B6O:t.B1h=((!AC t.E8||KQ t.name)&&(!BV t.E8||KQ t.arg)&&(!decide (t.E8=3)||decide (t.n=0)||decide (t.n=1))&&(!decide (t.E8=4)||decide (t.s.size<=200))&&(!decide (t.E8=14)||decide (0<t.J7.length))&&(!Dr t.E8||(decide (1<=t.op)&&decide (t.op<=7)))):=by
 unfold Ex.B1h AC BV Dr;by_cases k1:t.E8=1
 ·simp[k1]
 by_cases k9:t.E8=9
 ·simp[k9]
 by_cases k11:t.E8=11
 ·simp[k11]
 by_cases k12:t.E8=12
 ·simp[k12]
 by_cases k3:t.E8=3
 ·simp[k3]
 by_cases k4:t.E8=4
 ·simp[k4]
 by_cases k14:t.E8=14
 ·simp[k14]
 by_cases k16:t.E8=16
 ·simp[k16]
 simp[k1,k9,k11,k12,k3,k4,k14,k16]
variable (E:Bool)
def A3A(s:ByteArray):(decide (s=if E=true then s else Y4)&&(!E||KQ s))=Vd E s:=by cases E<;>simp[Vd]
def B9l(n:Int):decide (n=if E=true then n else 0)=(E||decide (n=0)):=by cases E<;>simp
def B9m:(decide (s=if eS k=true then s else Y4)&&(!decide (k=4)||decide (s.size<=200)))=((eS k||decide (s=Y4))&&decide (s.size<=200)):=by
 have n200:Y4.size<=200:=by decide
 unfold eS;by_cases h:k=4
 ·simp[h]
 ·by_cases e:s=Y4
  ·simp[h,e,n200]
  ·simp[h,e]
def B7U(n:Int)(r:Bool):(decide (n=if E=true then n else 0)&&(!E||r))=((!E||r)&&(E||decide (n=0))):=by cases E<;>simp
def B4n(l:List F5):decide (l.length=(if k=14 then l else[]).length)=(decide (k=14)||decide (l.length=0)):=by by_cases h:k=14<;>simp[h]
def A6o(m:Bool)(t:Ty):(decide (t=if E=true then t else KY)&&(if t.none=true then !m else t.closed))=Ve E m t:=by
 have dA:decide (t=KY)=t.none:=by rw[zZq,I6];exact B2Q t
 unfold Ve;cases E
 ·simp only[z0q,G9,dA]
  cases hn:t.none<;>simp
 ·simp
theorem Ex.B6P:(t.own&&t.J7.all F5.right)=t.one:=by
 by_cases hk:1<=t.E8/\t.E8<=16;rotate_left
 ·have h1:FB t=-1:=by unfold FB;rw[A7 hk]
  have h2:¬((-1:Int)=(t.D5.length:Int)):=by omega
  have k0:JX t.E8 t.J7.length=false:=by unfold JX;rw[zJq];intro h';simp only[zQq,I6]at h';omega
  unfold Ex.own Ex.one;rw[k0,h1];simp[h2]
 have hm:FB t=L9 t.E8 t.J7.length:=by unfold FB;rw[A9 hk]
 have Ak:JX t.E8 t.J7.length=(!decide (t.E8=14)||decide (0<t.J7.length)):=by unfold JX;simp[hk.1,hk.2]
 have cm:decide (L9 t.E8 t.J7.length=(t.D5.length:Int))=decide ((t.D5.length:Int)=L9 t.E8 t.J7.length):=by rw[decide_eq_decide];exact eq_comm
 have hb:(if t.b.none=true then true else t.b.closed)=(if t.b.none=true then !false else t.b.closed):=rfl;have ha:(if t.a.none=true then !decide (t.E8=15)else t.a.closed)=(if t.a.none=true then !Aa t.E8 else t.a.closed):=rfl;unfold Ex.own Ex.one Ex.A7a Ex.vI Ex.vJ Ex.vK Ex.vL Ex.vM Ex.b_ Ex.oV Ex.A0h;rw[hm,cm,Ak,Ex.B6O,hb,ha];simp only[X0,Ex.aD,Ex.A5t,Ex.XA,Ex.A2Z,Ex.B1f,Ex.B3P,Ex.B31,Ex.A2W];rw[<- A3A (AC t.E8) t.name,<- A3A (BV t.E8) t.arg,<- B9l (eN t.E8) t.n,<- B9m t.E8 t.s,<- B7U (Dr t.E8) t.op,<- B4n t.E8 t.J7,<- A6o (eA t.E8),<- A6o (eB t.E8)]
 ac_rfl
def vZ:t.fit->C9.p SF [t.D9]=some (.bool t.right):=by
 induction t using Ex.ind with
 |h t ih=>
   intro ht;have hk:=big (zFq ht.one.D5);have hp:=big (zFq ht.one.J7);refine(A4K _).trans ?_;have l2:=YQ (l:=t.D5) (f:=Ex.right) (P:=λi=>Qq C9 (iI i) t.D9)
    (by rw[eU];simp)
    (λi h=>by rw[eU];simp[h,V8 h,Ex.AA,Ex.ag,ih _ (z3q h) (ht.kid (z3q h)),CX (show i<9223372036854775807 by omega)];cases t.D5[i].right<;>rfl)
   have l1:=bg (l:=t.J7) (f:=F5.right) (P:=λi=>MS C9 (iI i) t.D9) (y:=.bool (t.D5.all Ex.right)) (n:=.bool false)
    (by rw[eT];simp only[Ie,Int.lt_irrefl,T9,N7,F3,z0q,G9,Ex.A1L,Hl,zbq];exact l2)
    (λi h=>by rw[eT];have f:=ht.one.pat _ (z3q h);simp[h,V8 h,F5.AA,F5.ag,A11 _ f.size f.txt,CX (show i<9223372036854775807 by omega)];cases t.J7[i].right<;>rfl)
   rw[A5T,Ex.right_eq,<- Ex.B6P];simp only[AF,F8,Ex.pj,Ex.AA,Ex.ag,B1E t ht.one,N7,U2,F3];have l1':MS C9 (iI 0) t.D9=_:=l1;rw[l1'];cases t.own<;>cases t.J7.all F5.right<;>simp
def A1Y:p.thin=true->∀n:Int,0<=n->n<=401->∃m:Int,C9.p Qm [p.D9,iI n]=some (iI m)/\n<=m/\m<=401:=by
 induction p using F5.ind with
 |h p ih=>
   intro ht n h0 h1;have hb:=p.Gm ht;have loop:∀(k j:Nat)(n:Int),j+k=p.D5.length->0<=n->n<=401->∃m:Int,MH C9 (iI n) (iI j) p.D9=some (iI m)/\n<=m/\m<=401:=by
    intro k;induction k with
    |zero=>
      intro j n hj h0 h1;refine⟨n,?_,Int.le_refl _,h1⟩;have:¬j<p.D5.length:=by omega
      rw[X_];simp[this]
    |succ k ihk=>
      intro j n hj h0 h1;have O9:j<p.D5.length:=by omega
      rw[X_];by_cases hn:n<=400
      ·have VK:D7 .add (iI n) (iI 1)=some (iI (n+1)):=Rv (by omega) (by omega);obtain⟨m,a1,a2,a3⟩:=ih _ (z3q O9) (F5.Ih ht (z3q O9)) (n+1) (by omega) (by omega);obtain⟨m',b1,b2,b3⟩:=ihk (j+1) m (by omega) (by omega) a3;push_cast at b1;exact⟨m',by simp[O9,hn,VK,V8 O9,F5.AA,F5.ag,a1,CX (show j<9223372036854775807 by omega),b1],by omega,b3⟩
      ·exact⟨n,by simp[O9,hn],Int.le_refl _,h1⟩
   by_cases c1:(300:Int)<(p.s.size:Int)
   ·refine⟨401,(TM _ _).trans ?_,h1,by omega⟩;rw[Ul];simp[c1]
   by_cases c2:(300:Int)<(p.name.size:Int)
   ·refine⟨401,(TM _ _).trans ?_,h1,by omega⟩;rw[Ul];simp[c1,c2]
   obtain⟨m,a1,a2,a3⟩:=loop p.D5.length 0 n (by omega) h0 h1;refine⟨m,(TM _ _).trans ?_,a2,a3⟩;rw[Ul];simp[c1,c2];exact a1
def xR(ht:t.fit)(n:Int)(h0:401<=n)(h1:n<=1000000):∃m:Int,C9.p OX [t.D9,iI n]=some (iI m)/\401<=m/\m<=n+1:=by
 have hk:=big (zFq ht.one.D5);have hp:=big (zFq ht.one.J7);have hn:¬n+1<=400:=by omega
 have e12:∃m:Int,MP C9 (iI (n+1)) t.D9=some (iI m)/\401<=m/\m<=n+1:=by
  rw[eO];by_cases c1:(300:Int)<(t.s.size:Int)
  ·exact⟨401,by simp[c1],by omega,by omega⟩
  by_cases c2:(300:Int)<(t.name.size:Int)
  ·exact⟨401,by simp[c1,c2],by omega,by omega⟩
  by_cases c3:(300:Int)<(t.arg.size:Int)
  ·exact⟨401,by simp[c1,c2,c3],by omega,by omega⟩
  ·exact⟨n+1,by simp[c1,c2,c3],by omega,by omega⟩
 obtain⟨m,a1,a2,a3⟩:=e12;have e9:MR C9 (iI (n+1)) (iI 0) t.D9=some (iI m):=by rw[PX];by_cases h:0<t.D5.length<;>simp[h,hn,a1]
 have e8:OI C9 (iI (n+1)) t.D9=some (iI m):=by rw[jh];exact e9
 have e5:MQ C9 (iI (n+1)) (iI 0) t.D9=some (iI m):=by rw[PW];by_cases h:0<t.J7.length<;>simp[h,hn,e8]
 have A5y:∀y:Ty,C9.p FK [y.D9,iI (n+1)]=some (iI (n+1)):=by intro y;refine(Rw _ _).trans ?_;rw[TK];simp;rw[KL];by_cases h:0<y.D5.length<;>simp[h,hn]
 have VK:D7 .add (iI n) (iI 1)=some (iI (n+1)):=Rv (by omega) (by omega);refine⟨m,(Yd _ _).trans ?_,a2,a3⟩;rw[au];simp[VK,Ty.AA,Ty.ag,A5y];exact e5
def NJ(k:Ex):(DV.agg [C8 0 k.D9,C8 1 k.D9,C8 2 k.D9,C8 3 k.D9,C8 4 k.D9,C8 5 k.D9,C8 6 k.D9,C8 7 k.D9,C8 8 k.D9,C8 9 k.D9,C8 10 k.D9,C8 11 k.D9,C8 12 k.D9,C8 13 k.D9,C8 14 k.D9,C8 15 k.D9])=k.D9:=by simp[Ex.AA,Ex.ag]
def zF:t.fit->t.V9<=R6->C9.p ZT [t.D9]=some (iI t.size):=by
 induction t using Ex.ind with
 |h t ih=>
   intro ft hm;have hk:=big (zFq ft.one.D5);have hs:=t.NP;have hb:=big hm;refine(A6g _).trans ?_;rw[A8r];simp only[AF,F8];have loop:=fK (l:=t.D5) (P:=λi (a:Nat)=>Sv C9 (iI a) (iI i) t.D9) (g:=λa k=>a+k.size) (fin:=λa=>some (iI a))
    (I:=λi a=>a+((t.D5.drop i).map Ex.size).sum<=R6)
    (λa _=>by rw[jo];simp)
    (λi h a ha=>by
      rw[z4q h,zuq,zMq]at ha;have:=big ha;refine⟨?_,by omega⟩;rw[jo];have e:D7 .add (iI (a:Int)) (iI (t.D5[i].size:Int))=some (iI ((a+t.D5[i].size:Nat):Int)):=by rw[Rv (by omega) (by omega)];simp
      simp[h,V8 h,Ex.AA,Ex.ag,ih _ (z3q h) (ft.kid (z3q h)) (by have:=Ex.bz (z3q h);omega),CX (show i<9223372036854775807 by omega),e]) 1
    (by have:=t.size_eq;simpa using(by omega:1+(t.D5.map Ex.size).sum<=R6))
   have e:∀(l:List Ex)(a:Nat),l.foldl (λa k=>a+k.size) a=a+(l.map Ex.size).sum:=by
    intro l;induction l with
    |nil=>intro a;simp
    |cons x l ih=>intro a;simp[ih];omega
   rw[e,<- Ex.size_eq]at loop;exact loop
def Ex.B8o{t:Ex}(rt:t.right=true)(k68:t.E8=6\/t.E8=8):∃(h0:0<t.D5.length)(h1:1<t.D5.length),t.D5.take 2=[t.D5[0],t.D5[1]]:=by
 have EP:=Ex.B4R (Ex.YX rt);have FD:t.D5.length=2:=by rcases k68 with k | k<;>rw[k]at EP<;>simp[L9]at EP<;>omega
 refine⟨by omega,by omega,?_⟩;apply List.ext_getElem
 ·simp[FD]
 ·intro i h1 h2;simp at h2
  match i,h2 with
  |0,_=>simp
  |1,_=>simp
def A40:t.fit->t.right=true->C9.p Ps [t.D9]=some (.bool t.value):=by
 induction t using Ex.ind with
 |h t ih=>
   intro ft rt;refine(A2A _).trans ?_;rw[A4x,Ex.B5u];by_cases k1:t.E8=1
   ·simp[k1]
   by_cases k2:t.E8=2
   ·simp[k2]
   by_cases k3:t.E8=3
   ·simp[k3]
   by_cases k4:t.E8=4
   ·simp[k4]
   by_cases k5:t.E8=5
   ·simp[k5]
   by_cases k7:t.E8=7
   ·simp[k7]
   by_cases k9:t.E8=9
   ·simp[k9]
   by_cases k68:t.E8=6\/t.E8=8
   ·obtain⟨h0,h1,e⟩:=Ex.B8o rt k68;have d0:O0 16 (.list 16 (t.D5.map Ex.D9)) (iI 0)=some t.D5[0].D9:=V8 h0;have d1:O0 16 (.list 16 (t.D5.map Ex.D9)) (iI 1)=some t.D5[1].D9:=V8 h1;have i0:=ih _ (z3q h0) (ft.kid (z3q h0)) (Ex.Bf rt (z3q h0));have i1:=ih _ (z3q h1) (ft.kid (z3q h1)) (Ex.Bf rt (z3q h1));have p11:PQ C9 t.D9=some (.bool ((t.D5.take 2).all Ex.value)):=by rw[zZ,e];simp[d0,d1,Ex.AA,Ex.ag,i0,i1];cases t.D5[0].value<;>simp
    rcases k68 with k | k<;>simp[k,p11]
   ·have k6:¬t.E8=6:=λh=>k68 (.inl h);have k8:¬t.E8=8:=λh=>k68 (.inr h);simp[k1,k2,k3,k4,k5,k6,k7,k8,k9]
def A4Z(ft:t.fit):C9.p aM [t.D9]=some (.bool (t.right&&t.value)):=by
 refine(A2z _).trans ?_;rw[A4t];simp only[AF,F8,NJ,TG t ft,N7,BG];cases rt:t.right
 ·simp
 ·simp[NJ,A40 t ft rt]
end
section
def I7{α β : Type}(a : α)(f : α->Option β):ob (some a) f=f a:=by first | (simp only[ob];done) | (simp only[ob];rfl)
variable (n:Nat)
def iN:DV:=.int .i64 (n:Int)
def lnk:Option Nat->DV
 |none=>.int .i64 (-1)
 |some m=>iN m
variable (d:Nd)(m:Nat)
def Nd.D9:DV:=.agg [iN d.E8,iN d.level,lnk d.link,.list 1 (d.D5.map iN),iN m]
def OW(i v:Nat)(S:E9):List (DV×F4):=[(.undef,.P9 i v 5 S.l.length),(iN S.mx,.val),(iN S.cnt,.val),(iN S.J8,.val)]
def Pi(S:E9)(ms:List Nat):List DV:=List.zipWith Nd.D9 S.l ms
structure Ee(b i:Nat)(S:E9)(ms:List Nat)(v:Nat)(sg:List E5):Prop where
 box:H5 sg b=some (OW i v S)
 P9:V5 sg i v=some (5,Pi S ms)
 len:ms.length=S.l.length
 le:∀m∈ms,m<=S.J8
def Y7(b i:Nat)(S:E9)(sg:List E5):Prop:=∃ms v,Ee b i S ms v sg
structure Kp(b i:Nat)(sg sg':List E5):Prop where
 le:sg.length<=sg'.length
 eq:∀j,j<sg.length->j≠b->j≠i->sg'[j]?=sg[j]?
variable {i:Nat}
def Kp.refl{b:Nat}(sg:List E5):Kp b i sg sg:=⟨zgq _,λ_ _ _ _=>rfl⟩
def Kp.trans{b:Nat}{x y z:List E5}(h:Kp b i x y)(k:Kp b i y z):Kp b i x z :=⟨zOq h.le k.le,λj hj h1 h2=>(k.eq j (z6q hj h.le) h1 h2).trans (h.eq j hj h1 h2)⟩
variable {sg:List E5}
def dF{n:Nat}{x:Nat×List DV}(h:V5 sg i n=some x):i<sg.length:=by
 unfold V5 at h;split at h
 ·rename_i h';exact(z7q.1 h').1
 ·cases h
def XI{x:List (DV×F4)}(h:H5 sg i=some x):sg[i]?=some (.box x):=by unfold H5 at h;split at h<;>simp_all
def A0s{n:Nat}{x:Nat×List DV}(h:V5 sg i n=some x):sg[i]?=some (.P9 n x.1 x.2):=by
 unfold V5 at h;split at h
 ·split at h
  ·rename_i e;simp only[D8]at h;subst h;subst e;assumption
  ·cases h
 ·cases h
def Bg(h:i<sg.length)(x:List (DV×F4)):H5 (sg.set i (.box x)) i=some x:=by simp[H5,h]
def Zt(h:i<sg.length)(n sz:Nat)(ds:List DV):V5 (sg.set i (.P9 n sz ds)) i n=some (sz,ds):=by simp[V5,h]
def Cv{j:Nat}(h:i≠j)(o:E5):H5 (sg.set i o) j=H5 sg j:=by unfold H5;rw[z2q h]
def pO{j n:Nat}(h:i≠j)(o:E5):V5 (sg.set i o) j n=V5 sg j n:=by unfold V5;rw[z2q h]
variable {S:E9}{ms:List Nat}
def Ee.ne{b v:Nat}(h:Ee b i S ms v sg):i≠b:=by intro e;have h1:=XI h.box;have h2:=A0s h.P9;rw[e,h1]at h2;cases h2
def Ee.mono{b v:Nat}{sg':List E5}(h:Ee b i S ms v sg)(h1:sg'[b]?=sg[b]?)(h2:sg'[i]?=sg[i]?):Ee b i S ms v sg' :=⟨by rw[Jy h1];exact h.box,by rw[pQ h2];exact h.P9,h.len,h.le⟩
def Ee.app{b v:Nat}(h:Ee b i S ms v sg)(L:List E5):Ee b i S ms v (sg++L) :=h.mono (zaq (CY h.box)) (zaq (dF h.P9))
def Y7.app{b:Nat}(h:Y7 b i S sg)(L:List E5):Y7 b i S (sg++L):=by obtain⟨ms,v,h⟩:=h;exact⟨ms,v,h.app L⟩
def Kp.app{b:Nat}(sg L:List E5):Kp b i sg (sg++L):=⟨by simp,λj hj _ _=>zaq hj⟩
def Kp.set{b j:Nat}(sg:List E5)(o:E5)(h:j=b\/j=i):Kp b i sg (sg.set j o) :=⟨by simp,λk hk h1 h2=>z2q (by omega)⟩
section
variable {b i v:Nat}{S:E9}{ms:List Nat}{sg:List E5}
@[simp] theorem CU:Ao (OW i v S) 0 5=some (i,v,S.l.length):=rfl
@[simp] theorem C0N:U6 (OW i v S) 1=some (iN S.mx):=rfl
@[simp] theorem B7p:U6 (OW i v S) 2=some (iN S.cnt):=rfl
@[simp] theorem A9Y:U6 (OW i v S) 3=some (iN S.J8):=rfl
def A17:iw n=some (iN n):=XL n
def Jn{n k:Nat}(h:k<n):l7 0 n (iN k)=some k:=by simp only[l7,iN];rw[A9 (by omega)];simp
def Ee.nd(h:Ee b i S ms v sg){n:Nat}{d:Nd}(hd:S.l[n]?=some d):∃m,ms[n]?=some m/\m<=S.J8/\(Pi S ms)[n]?=some (d.D9 m):=by
 have hn:=(z7q.1 hd).1;have hm:n<ms.length:=by rw[h.len];exact hn
 refine⟨ms[n],zdq hm,h.le _ (z3q hm),?_⟩;unfold Pi;rw[zyq,hd,zdq hm]
def Ee.lv(h:Ee b i S ms v sg):i<sg.length:=dF h.P9
def Ee.lb(h:Ee b i S ms v sg):b<sg.length:=CY h.box
@[simp] theorem nd0:C8 0 (d.D9 m)=iN d.E8:=rfl
@[simp] theorem nd1:C8 1 (d.D9 m)=iN d.level:=rfl
@[simp] theorem nd2:C8 2 (d.D9 m)=lnk d.link:=rfl
@[simp] theorem nd3:C8 3 (d.D9 m)=.list 1 (d.D5.map iN):=rfl
@[simp] theorem nd4:C8 4 (d.D9 m)=iN m:=rfl
@[simp] theorem P5:I9 (iN n)=true:=rfl
@[simp] theorem Ba:M8 (iN n)=true:=rfl
@[simp] theorem Lm:Z4 false (iN n)=true:=rfl
def B2I(o:Option Nat):D7 .geq (lnk o) (iI 0)=some (.bool o.isSome):=by cases o<;>simp[lnk,iN]
variable (a:Nat)
def PT(c:Nat):D7 .eql (iN a) (iN c)=some (.bool (decide (a=c))):=by
 simp only[iN,BG]
 congr 2;exact decide_eq_decide.2 (by omega)
def YS(c:Nat):D7 .neq (iN a) (iN c)=some (.bool (!decide (a=c))):=by
 simp only[iN,Dz]
 congr 3;exact decide_eq_decide.2 (by omega)
def Ac(c:Nat):D7 .lss (iN a) (iN c)=some (.bool (decide (a<c))):=by simp[iN]
def yV(c:Nat):D7 .gtr (iN a) (iN c)=some (.bool (decide (c<a))):=by simp[iN]
def B0K:D7 .geq (iN a) (iI 0)=some (.bool true):=by simp[iN]
def uw:D7 .lss (iN a) (iI 0)=some (.bool false):=by simp[iN]
variable {a:Nat}
theorem addN(h:a<2 ^ 62):D7 .add (iN a) (iI 1)=some (iN (a+1)):=by rw[iN,CX (by omega)];rfl
def B0c{c:Nat}(h:a+c<2 ^ 62):D7 .add (iN a) (iN c)=some (iN (a+c)):=by rw[iN,iN,Rv (by omega) (by omega)];simp[iN]
def B1I(h:a<2 ^ 62):D7 .sub (iN (a+1)) (iI 1)=some (iN a):=by simp only[iN];rw[Jo,Gq (by omega) (by omega)];congr 2;omega
def B1H{c:Nat}(h:c<=a)(h2:a<2 ^ 62):D7 .sub (iN a) (iN c)=some (iN (a-c)):=by simp only[iN];rw[Jo,Gq (by omega) (by omega)];congr 2;omega
variable {l:List Nat}
def IL{j:Nat}(h:j<l.length):O0 1 (.list 1 (l.map iN)) (iN j)=some (iN l[j]):=V8 h
def TQ(l:List Nat):O6 (.list 1 (l.map iN))=some (iN l.length):=by simp[iN]
def zP(h:l.length<2 ^ 31):Dh 1 (.list 1 (l.map iN)) (.list 1 [iN a])=some (.list 1 ((l++[a]).map iN)):=by rw[JW (by simp[R6];omega)];simp
def A5k(h:Ee b i S ms v sg)(n:Nat):C9.r Y2 [(.undef,.ptr b 0),(iN n,.val)] sg=some ([.bool (decide (n<S.l.length))],sg):=by refine(uO _ _ _).trans ?_;rw[xM];simp only[B0K,I7,Q3,F6,h.box,CU,A17,Ac]
variable {n:Nat}
def RP(h:Ee b i S ms v sg){r:Nat}(hr:X6 S n r):C9.r Q7 [(.undef,.ptr b 0),(iN n,.val)] sg=some ([iN r],sg):=by
 refine(nX _ _ _).trans ?_;rw[rW];simp only[A5k h,I7,z1q,U2,F3,hr.lt,J9,z5q,z0q,G9]
 induction hr with
 |here h1 h2=>obtain⟨m,-,-,e⟩:=h.nd h1;rw[SS];simp only[h.box,I7,CU,Jn (X6.here h1 h2).lt,h.P9,e,beq_self_eq_true,F8,nd2,B2I,F3,h2,zzq,z0q,G9]
 |step h1 h2 h3 ih=>obtain⟨m,-,-,e⟩:=h.nd h1;rw[SS];simp only[h.box,I7,CU,Jn (X6.step h1 h2 h3).lt,h.P9,e,beq_self_eq_true,F8,nd2,B2I,F3,h2,zAq,F6];exact ih
variable {t:NT}
def A9S(h:Ee b i S ms v sg)(hr:U9 S n t):C9.r Y5 [(.undef,.ptr b 0),(iN n,.val)] sg=some ([iN t.k],sg):=by refine(nT _ _ _).trans ?_;obtain⟨d,d1,-,d3,-⟩:=hr.nd;obtain⟨m,-,-,e⟩:=h.nd d1;rw[rR];simp only[A5k h,I7,z1q,U2,F3,hr.lt,J9,z5q,z0q,G9,h.box,CU,RP h hr.root,Mv,F6,Jn hr.Gs,h.P9,e,beq_self_eq_true,F8,nd0,d3]
theorem B7a(h:Ee b i S ms v sg)(ok:S.Ok)(hr:U9 S n t):
 C9.r DL [(.undef,.ptr b 0),(iN n,.val)] sg=some ([.list 1 ((S.I1 t.r).map iN)],sg++[.arr 1 []]):=by
 refine(nS _ _ _).trans ?_;obtain⟨d,d1,-,d3,-⟩:=hr.nd;obtain⟨m,-,-,e⟩:=h.nd d1;have hk:=ok.k2 d1;rw[rQ,ED d1];simp only[A5k h,I7,z1q,U2,F3,hr.lt,J9,z5q,z0q,G9,h.box,CU,RP h hr.root,Mv,F6,Jn hr.Gs,h.P9,e,beq_self_eq_true,F8,nd3,B0t,zbq,zjq];rw[show decide (d.D5.length<=R6)=true from decide_eq_true (by unfold R6;omega),F8];have:RL (sg++[E5.arr 1 (d.D5.map iN)]) sg.length=some (1,d.D5.map iN):=by simp[RL]
 simp only[B48,Bj,this,I7,beq_self_eq_true,F8,zPq,zbq,zgq,F6,zcq];rw[zTq _ _ (zgq _),yaq,zvq (by simp)];rfl
def B5m(h:Ee b i S ms v sg)(hr:U9 S n t)(hk:t.k=6):C9.r GQ [(.undef,.ptr b 0),(iN n,.val)] sg=some ([iN (S.U8 t.r)],sg):=by
 refine(kM _ _ _).trans ?_;obtain⟨d,d1,-,d3,-⟩:=hr.nd;obtain⟨m,-,-,e⟩:=h.nd d1;rw[nA,oJ d1];have:D7 .neq (iN t.k) (iI 6)=some (.bool false):=by rw[hk];rfl
 simp only[A9S h hr,I7,z1q,this,F3,z0q,G9,h.box,CU,RP h hr.root,Mv,F6,Jn hr.Gs,h.P9,e,beq_self_eq_true,F8,nd1]
end
end
section
variable {b i v:Nat}{S:E9}{ms:List Nat}{sg:List E5}
def B6G{S:E9}{ms:List Nat}{r x:Nat}{d:Nd}(hd:S.l[r]?=some d):(Pi S ms).set r (d.D9 x)=Pi S (ms.set r x):=by
 unfold Pi;refine zKq λj=>?_;rw[zyq,zwq,zwq,zyq,zXq];by_cases h:r=j
 ·subst h;rw[hd,A9 rfl,A9 rfl];have:=(z7q.1 hd).1;by_cases h2:r<ms.length
  ·rw[A9 (by omega),A9 h2]
  ·rw[A7 (by omega),A7 h2]
 ·rw[A7 h,A7 h]
def A9z{S:E9}{ms:List Nat}{r m:Nat}{d:Nd}{f:Nd->Nd}(hd:S.l[r]?=some d)(hm:ms[r]?=some m):(Pi S ms).set r ((f d).D9 m)=Pi { S with l:=S.l.modify r f } ms:=by
 unfold Pi;refine zKq λj=>?_;rw[zyq,zwq,zyq,zXq,List.getElem?_modify];by_cases h:r=j
 ·subst h;have h1:=(z7q.1 hd).1;have h2:=(z7q.1 hm).1;rw[hd,hm,A9 rfl,A9 (by omega)];simp
 ·rw[A7 h];cases S.l[j]?<;>simp[h]
def Ee.wr{S':E9}{ms':List Nat}(h:Ee b i S ms v sg)(hl:S'.l.length=S.l.length)(h1:S'.mx=S.mx)(h2:S'.cnt=S.cnt)(h3:S'.J8=S.J8)(hm:ms'.length=ms.length)(J4:∀m∈ms',m<=S'.J8){ds:List DV}(hd:ds=Pi S' ms'):
 Ee b i S' ms' v (sg.set i (.P9 v 5 ds)):=by
 refine⟨?_,?_,by rw[hm,h.len,hl],J4⟩
 ·rw[Cv h.ne,h.box];simp only[OW,hl,h1,h2,h3]
 ·rw[hd];exact Zt h.lv ..
def Ee.tick(h:Ee b i S ms v sg):Ee b i S.tick ms v (sg.set b (.box ((OW i v S).set 3 (iN (S.J8+1),.val)))) :=⟨Bg h.lb _,by rw[pO (Ne.symm h.ne)];exact h.P9,h.len,λm hm=>by have:=h.le m hm;simp only[E9.tick];omega⟩
variable (d:Nd)
theorem B4L(m x:Nat):Kj 5 4 (d.D9 m) [(iN x,.val)]=some (d.D9 x):=rfl
theorem B2H(m x:Nat):Kj 5 1 (d.D9 m) [(iN x,.val)]=some ({ d with level:=x }.D9 m):=rfl
theorem B4I(m x:Nat):Kj 5 2 (d.D9 m) [(iN x,.val)]=some ({ d with link:=some x }.D9 m):=rfl
structure Met(S:E9)(ms o:List Nat):Prop where
 iff:∀(r m:Nat),ms[r]?=some m->(m=S.J8↔r∈o)
 nd:o.Nodup
 lt:∀r∈o,r<S.l.length
variable {o:List Nat}
def Met.len(h:Met S ms o):o.length<=S.l.length:=by have:=k_ h.nd (m:=List.range S.l.length) λx hx=>List.mem_range.2 (h.lt x hx);simpa using this
def Met.add{r:Nat}(h:Met S ms o)(hr:r<S.l.length)(hn:r∉o):Met S (ms.set r S.J8) (o++[r]):=by
 refine⟨λj m hj=>?_,?_,λj hj=>?_⟩
 ·rw[zwq]at hj;rw[znq,ziq];by_cases e:r=j
  ·subst e;rw[A9 rfl]at hj;split at hj
   ·cases hj;simp
   ·cases hj
  ·rw[A7 e]at hj;rw[h.iff j m hj];constructor
   ·exact Or.inl
   ·rintro(g | g)
    ·exact g
    ·exact absurd g.symm e
 ·rw[y5q];exact⟨h.nd,by simp,λa ha c hc=>by simp only[ziq]at hc;subst hc;intro e;subst e;exact hn ha⟩
 ·rw[znq,ziq]at hj;rcases hj with hj | hj
  ·exact h.lt j hj
  ·omega
def B1R(b i:Nat)(S:E9)(v:Nat)(sg:List E5)(x:Option (List DV×List E5))(o:List Nat):Prop :=∃ms' sg',x=some ([.list 1 (o.map iN)],sg')/\Ee b i S ms' v sg'/\Met S ms' o/\Kp b i sg sg'
def B7j(ok:S.Ok)(t:NT):∀(n:Nat),U9 S n t->∀(o ms:List Nat)(sg:List E5),Ee b i S ms v sg->Met S ms o->
 B1R b i S v sg (C9.r Kt [(.undef,.ptr b 0),(iN n,.val),(.list 1 (o.map iN),.own)] sg) (t.look o):=by
 induction t using NT.ind with
 |h r k ts ih=>
   intro n hu o ms sg h M;obtain⟨d,d1,d2,d3,d4,d5⟩:=hu.nd;simp only[NT.JK,NT.VV,NT.U7]at d1 d3 d4 d5;obtain⟨m,m1,m2,e⟩:=h.nd d1;have hr:=hu.Gs;have Sg:=hu.root;simp only[NT.JK]at hr Sg;have ol:=M.len;have oc:=ok.lc;have omm:=ok.mm;have ocm:=ok.cm;rw[nZ,rY];simp only[RP h Sg,I7,z1q,h.box,CU,Jn hr,h.P9,e,beq_self_eq_true,F8,A9Y,nd4,PT,F3,I6,NT.look]
   by_cases hm:m=S.J8
   ·rw[A9 hm,A9 ((M.iff r m m1).1 hm)];exact⟨ms,sg,rfl,h,M,Kp.refl _⟩
   ·have ho:r∉o:=λg=>hm ((M.iff r m m1).2 g);rw[A7 hm,A7 ho];have h1:Ee b i S (ms.set r S.J8) v (sg.set i (.P9 v 5 ((Pi S ms).set r (d.D9 S.J8)))) :=
     h.wr rfl rfl rfl rfl (by simp) (λx hx=>by
      rcases List.mem_or_eq_of_mem_set hx with g | g
      ·exact h.le x g
      ·omega) (B6G d1)
    have M1:=M.add hr ho;obtain⟨m',-,-,e1⟩:=h1.nd d1;have hk:=ok.k2 d1;simp only[P5,F8,B4L,I7,zP (show o.length<2 ^ 31 by omega),h1.box,CU,Jn hr,h1.P9,e1,beq_self_eq_true,nd3,TQ]
    have key:∀(q j:Nat)(o ms:List Nat)(sg:List E5),j+q=d.D5.length->Ee b i S ms v sg->Met S ms o->
     B1R b i S v sg (IE C9 b (.list 1 (o.map iN)) (.list 1 (d.D5.map iN)) (iN d.D5.length) (iN j) sg) (NT.LW (ts.drop j) o):=by
     intro q;induction q with
     |zero=>intro j o ms sg hj h M;rw[SX,z8q (by omega)];simp only[Ac,I7,F3,I6];rw[A7 (by omega),NT.LW];exact⟨ms,sg,rfl,h,M,Kp.refl _⟩
     |succ q ihq=>
       intro j o ms sg hj h M;have O9:j<d.D5.length:=by omega
       have FT:j<ts.length:=by omega
       obtain⟨ms',sg',a1,a2,a3,a4⟩:=ih ts[j] (z3q FT) d.D5[j] (d5 j O9 FT) o ms sg h M;obtain⟨ms2,sg2,b1,b2,b3,b4⟩:=ihq (j+1) _ ms' sg' (by omega) a2 a3;refine⟨ms2,sg2,?_,b2,?_,a4.trans b4⟩
       ·rw[SX,z4q FT];simp only[Ac,I7,F3,I6,A9 O9,IL O9,Ba,F8,a1,z1q,addN (show j<2 ^ 62 by omega),NT.LW]
        exact b1
       ·rw[z4q FT,NT.LW];exact b3
    obtain⟨ms2,sg2,b1,b2,b3,b4⟩:=key d.D5.length 0 _ _ _ (by omega) h1 M1;exact⟨ms2,sg2,b1,b2,b3,(Kp.set sg _ (.inr rfl)).trans b4⟩
def Xu(b i:Nat)(sg:List E5)(x:Option (List DV×List E5))(ds:List DV)(S:E9):Prop:=∃sg',x=some (ds,sg')/\Y7 b i S sg'/\Kp b i sg sg'
def Ee.at(h:Ee b i S ms v sg):Y7 b i S sg:=⟨ms,v,h⟩
def pY(h:Y7 b i S sg)(ok:S.Ok)(hr:S.J8+1<2 ^ 62){n:Nat}{t:NT}(ht:U9 S n t):Xu b i sg (C9.r EG [(.undef,.ptr b 0),(iN n,.val)] sg) [.list 1 ((S.roots n).map iN)] S.tick:=by
 obtain⟨ms,v,h⟩:=h;have M:Met S.tick ms []:=⟨λr m hm=>by have:=h.le m (List.mem_of_getElem? hm);simp only[E9.tick,zmq,iff_false];omega,ypq,by simp⟩
 obtain⟨ms',sg',a1,a2,a3,a4⟩:=B7j (b:=b) (i:=i) (v:=v) ok.tick t n ht.tick [] ms _ h.tick M;refine⟨sg',?_,a2.at,(Kp.set sg _ (.inl rfl)).trans a4⟩;refine(kQ _ _ _).trans ?_;rw[nE];have c3:(OW i v S)[3]?=some (iN S.J8,.val):=rfl;simp only[h.box,I7,A9Y,addN (show S.J8<2 ^ 62 by omega),P5,F8,c3]
 simp only[zGq]at a1;rw[a1];simp only[I7,z1q,E9.roots,ht.eq]
end
section
variable {b i:Nat}{S:E9}{sg:List E5}
def B3w(l:List Nat)(hl:l.length<2 ^ 31)(n:Nat):C9.p Ca [.list 1 (l.map iN),iN n]=some (.bool (decide (n∈l))):=by
 have:=ve (l.map Int.ofNat) (by simp[R6];omega) n;have e:N9 (l.map Int.ofNat)=.list 1 (l.map iN):=by simp only[N9,List.map_map];rfl
 rw[e]at this;rw[show iN n=.int .i64 (n:Int)from rfl,this];congr 2;refine decide_eq_decide.2 ⟨λh=>?_,λh=>zYq h⟩;obtain⟨m,hm,h2⟩:=List.mem_map.1 h;have:(m:Int)=n:=h2;have:m=n:=by omega
 rw[<- this];exact hm
def YY(h:Y7 b i S sg)(n:Nat):C9.r Y2 [(.undef,.ptr b 0),(iN n,.val)] sg=some ([.bool (decide (n<S.l.length))],sg):=by obtain⟨ms,v,h⟩:=h;exact A5k h n
variable {n:Nat}
def OC(h:Y7 b i S sg)(ok:S.Ok)(hn:n<S.l.length):C9.r Q7 [(.undef,.ptr b 0),(iN n,.val)] sg=some ([iN (S.root n)],sg):=by obtain⟨ms,v,h⟩:=h;exact RP h (ok.root hn)
def TS(h:Y7 b i S sg)(ok:S.Ok)(hn:n<S.l.length):C9.r Y5 [(.undef,.ptr b 0),(iN n,.val)] sg=some ([iN (S.F9 (S.root n))],sg):=by obtain⟨ms,v,h⟩:=h;obtain⟨d,-,-,d3,-,d5,-⟩:=ok.nd hn;rw[A9S h (ok.K5 hn),<- d5,d3]
def pW(h:Y7 b i S sg)(ok:S.Ok)(hn:n<S.l.length):C9.r DL [(.undef,.ptr b 0),(iN n,.val)] sg=some ([.list 1 ((S.I1 (S.root n)).map iN)],sg++[.arr 1 []]):=by obtain⟨ms,v,h⟩:=h;exact B7a h ok (ok.K5 hn)
def A37(h:Y7 b i S sg)(ok:S.Ok)(hn:n<S.l.length)(hk:S.F9 (S.root n)=6):C9.r GQ [(.undef,.ptr b 0),(iN n,.val)] sg=some ([iN (S.U8 (S.root n))],sg):=by obtain⟨ms,v,h⟩:=h;obtain⟨d,-,-,d3,-,d5,-⟩:=ok.nd hn;exact B5m h (ok.K5 hn) (by rw[<- d3,d5,hk])
def E9.Ok.len{S:E9}(ok:S.Ok):S.l.length<=65541:=by have:=ok.lc;have:=ok.cm;have:=ok.mm;omega
def E9.Ok.A2Y{S:E9}(ok:S.Ok)(hn:n<S.l.length):(S.roots n).length<2 ^ 31:=by have:=E9.A36 ok hn;have:=ok.len;omega
def E9.B3D(S:E9)(ok:S.Ok)(hn:n<S.l.length):S.tick.root n=S.root n:=(ok.K5 hn).tick.Hw
def A38(h:Y7 b i S sg)(ok:S.Ok)(hr:S.J8+1<2 ^ 62){v:Nat}(hv:v<S.l.length)(hn:n<S.l.length):
 Xu b i sg (C9.r Iu [(.undef,.ptr b 0),(iN v,.val),(iN n,.val)] sg) [.bool (decide (S.root v∈S.roots n))] S.tick:=by
 obtain⟨K4,e1,a1,k1⟩:=pY h ok hr (ok.K5 hn);refine⟨K4,?_,a1,k1⟩;refine(iQ _ _ _ _).trans ?_;rw[jw];simp only[YY h,I7,z1q,Q3,hv,hn,J9,F6,e1,OC a1 ok.tick (show v<S.tick.l.length from hv),S.B3D ok hv,B3w _ (ok.A2Y hn)]
def B3u(h:Y7 b i S sg)(ok:S.Ok)(hr:S.J8+1<2 ^ 62)(hn:n<S.l.length):
 Xu b i sg (C9.r NS [(.undef,.ptr b 0),(iN n,.val)] sg) [.bool (decide (4∉S.roots n))] S.tick:=by
 obtain⟨K4,e1,a1,k1⟩:=pY h ok hr (ok.K5 hn);refine⟨K4,?_,a1,k1⟩;refine(iP _ _ _).trans ?_;rw[jv];have:=B3w (S.roots n) (ok.A2Y hn) 4;rw[show iN 4=.int .i64 4 from rfl]at this;simp only[YY h,I7,z1q,Q3,hn,J9,F6,e1,this,U2]
 congr 4;by_cases g:4∈S.roots n<;>simp[g]
def A9T(h:Y7 b i S sg)(ok:S.Ok)(hr:S.J8+1<2 ^ 62)(hn:n<S.l.length):
 Xu b i sg (C9.r Kr [(.undef,.ptr b 0),(iN n,.val)] sg) [.list 1 ((S.vars n).map iN)] S.tick:=by
 obtain⟨K4,e1,a1,k1⟩:=pY h ok hr (ok.K5 hn);refine⟨K4,?_,a1,k1⟩;refine(nY _ _ _).trans ?_;rw[rX];simp only[YY h,I7,z1q,U2,F3,hn,J9,z5q,z0q,G9,e1,TQ];obtain⟨ms,v,a1⟩:=a1;have hl:=ok.A2Y hn;have key:∀(q j:Nat)(o:List Nat),j+q=(S.roots n).length->o.length<=j->Ej C9 b (.list 1 (o.map iN)) (.list 1 ((S.roots n).map iN)) (iN (S.roots n).length) (iN j) K4=some ([.list 1 ((o++((S.roots n).drop j).filter λr=>S.F9 r==6).map iN)],K4):=by
  intro q;induction q with
  |zero=>intro j o hj ho;rw[SV,z8q (by omega)];simp only[Ac,I7,F3,I6];rw[A7 (by omega),ylq,ymq]
  |succ q ih=>
    intro j o hj ho;have O9:j<(S.roots n).length:=by omega
    have hx:=ok.Lp hn (z3q O9);obtain⟨d,hd⟩:∃d,S.tick.l[(S.roots n)[j]]?=some d:=⟨_,zdq hx⟩;obtain⟨m,-,-,e⟩:=a1.nd hd;rw[SV,z4q O9,y7q];simp only[Ac,I7,F3,I6,A9 O9,IL O9,Ba,F8,a1.box,CU,Jn (show(S.roots n)[j]<S.tick.l.length from hx),a1.P9,e,beq_self_eq_true,nd0,show(DV.int .i64 6)=iN 6 from rfl,PT,P5,addN (show j<2 ^ 62 by omega)]
    have hd:S.l[(S.roots n)[j]]?=some d:=hd;rw[DU hd];by_cases h6:d.E8=6
    ·rw[A9 h6,zP (show o.length<2 ^ 31 by omega),h6];simp only[I7,beq_self_eq_true,F6];rw[ih (j+1) _ (by omega) (by simp;omega),y6q];rfl
    ·rw[A7 h6,ih (j+1) _ (by omega) (by omega)];simp[h6]
 have:=key (S.roots n).length 0 [] (by omega) (by simp);simp only[zGq,zsq,zcq]at this;exact this
def B8u(a c:Nat):ae (iN a) (iN c)=some (iN (min a c)):=by
 simp only[ae,iN,F6]
 congr 2;split<;>omega
def A7S(h:Y7 b i S sg)(ok:S.Ok)(hr:S.J8+1<2 ^ 62){A8:Nat}(hn:n<S.l.length):
 Xu b i sg (C9.r KH [(.undef,.ptr b 0),(iN n,.val),(iN A8,.val)] sg) [] (S.lower n A8):=by
 obtain⟨K4,e1,a1,k1⟩:=A9T h ok hr hn;obtain⟨ms,v,a1⟩:=a1;have hl:=ok.A2Y hn;have hvl:(S.vars n).length<2 ^ 31:=yeq (zUq ..) hl;have key:∀(q j:Nat)(l:List Nd)(sg:List E5),j+q=(S.vars n).length->l.length=S.l.length->Ee b i { S.tick with l:=l } ms v sg->
  ∃sg',Gv C9 b (iN A8) (.list 1 ((S.vars n).map iN)) (iN (S.vars n).length) (iN j) sg=some ([],sg')/\Ee b i { S.tick with l:=bu l ((S.vars n).drop j) A8 } ms v sg'/\Kp b i sg sg':=by
  intro q;induction q with
  |zero=>intro j l sg hj hll h;rw[Rf,z8q (by omega)];simp only[Ac,I7,F3,I6];rw[A7 (by omega)];exact⟨sg,rfl,h,Kp.refl _⟩
  |succ q ih=>
    intro j l sg hj hll h;have O9:j<(S.vars n).length:=by omega
    have hx:(S.vars n)[j]<S.l.length:=ok.Lp hn (ynq.1 (z3q O9)).1;obtain⟨d,hd⟩:∃d,l[(S.vars n)[j]]?=some d:=⟨_,zdq (by rw[hll];exact hx)⟩;obtain⟨m,hm,-,e⟩:=h.nd hd;have h':Ee b i { S.tick with l:=l.modify (S.vars n)[j] λd=>{ d with level:=min d.level A8 } } ms v (sg.set i (.P9 v 5 ((Pi { S.tick with l:=l } ms).set (S.vars n)[j] ({ d with level:=min d.level A8 }.D9 m)))) :=h.wr (S':={ S.tick with l:=l.modify (S.vars n)[j] λd=>{ d with level:=min d.level A8 } }) (by simp) rfl rfl rfl rfl h.le (A9z (S:={ S.tick with l:=l }) (f:=λd=>{ d with level:=min d.level A8 }) hd hm)
    obtain⟨sg',b1,b2,b3⟩:=ih (j+1) _ _ (by omega) (by simp[hll]) h';refine⟨sg',?_,?_,(Kp.set sg _ (.inr rfl)).trans b3⟩
    ·rw[Rf];simp only[Ac,I7,F3,I6,A9 O9,IL O9,Ba,F8,h.box,CU,Jn (show(S.vars n)[j]<l.length by omega),h.P9,e,beq_self_eq_true,nd1,B8u,P5,addN (show j<2 ^ 62 by omega),B2H]
     exact b1
    ·rw[z4q O9];exact b2
 obtain⟨sg2,b1,b2,b3⟩:=key (S.vars n).length 0 S.l K4 (by omega) rfl a1;refine⟨sg2,?_,⟨ms,v,b2⟩,k1.trans b3⟩;refine(kP _ _ _ _).trans ?_;rw[nD];simp only[e1,I7,z1q,TQ];exact b1
theorem A7O(h:Y7 b i S sg)(ok:S.Ok)(hr:S.J8+1<2 ^ 62){A8:Nat}(hn:n<S.l.length):
 Xu b i sg (C9.r KG [(.undef,.ptr b 0),(iN n,.val),(iN A8,.val)] sg) [iN 0] (S.lower n A8):=by
 obtain⟨K4,e1,a1,k1⟩:=A7S (A8:=A8) h ok hr hn;refine⟨K4,?_,a1,k1⟩;refine(kN _ _ _ _).trans ?_;rw[nC];simp only[YY h,I7,z1q,U2,Q3,hn,J9,z5q,z0q,G9,uw,F3,e1]
 try rfl
theorem A22(h:Y7 b i S sg)(ok:S.Ok)(hr:S.J8+2<2 ^ 62){v:Nat}(hv:v<S.l.length)(hn:n<S.l.length):
 Xu b i sg (C9.r Ef [(.undef,.ptr b 0),(iN v,.val),(iN n,.val)] sg) [iN (S.link v n).2] (S.link v n).1:=by
 obtain⟨ms,w,hm⟩:=id h;have hrv:=ok.Gs hv;have hrn:=ok.Gs hn;obtain⟨d,d1,d2,-,-,d5,d6⟩:=ok.nd hv;obtain⟨m,m1,-,e⟩:=hm.nd d1;have step:∀x,(K_ C9 b (iN v) (iN n) sg=x->C9.r Ef [(.undef,.ptr b 0),(iN v,.val),(iN n,.val)] sg=x):=λx g=>(nU b (iN v) (iN n) sg).trans g;have start:K_ C9 b (iN v) (iN n) sg=_:=rT _ _ _ _ _;simp only[OC h ok hv,OC h ok hn,I7,z1q,uw,Q3,z0q,G9,hm.box,CU,Jn hrv,hm.P9,e,beq_self_eq_true,F8,nd0,show(DV.int .i64 6)=iN 6 from rfl,YS,PT,F3,d5]at start;unfold E9.link;by_cases h6:S.F9 (S.root v)=6
 ·by_cases heq:S.root v=S.root n
  ·rw[A9 (.inr heq)];refine⟨sg,step _ ?_,h,Kp.refl _⟩;rw[start];simp[h6,heq];rfl
  ·rw[A7 (by simp[h6,heq])];obtain⟨K4,e1,a1,k1⟩:=A38 h ok (by omega) hrv hrn;rw[ok.rr hv]at e1;have rrn:S.roots (S.root n)=S.roots n:=by have:S.K5 (S.root n)=S.K5 n:=(ok.K5 hn).self.eq;unfold E9.roots;rw[this]
   rw[rrn]at e1;simp only[h6,heq,J9,z5q,z0q,G9,T9,e1,I7,z1q,F3,I6]at start;by_cases hw:S.root v∈S.roots n
   ·rw[A9 hw];refine⟨K4,step _ ?_,a1,k1⟩;rw[start,A9 hw];rfl
   ·rw[A7 hw];rw[A7 hw]at start;obtain⟨ms1,w1,Sc⟩:=id a1;obtain⟨m1,m2,-,e2⟩:=Sc.nd (S:=S.tick) d1;have h2:Ee b i (S.tick.BF (S.root v) (S.root n)) ms1 w1 (K4.set i (.P9 w1 5 ((Pi S.tick ms1).set (S.root v) ({ d with link:=some (S.root n) }.D9 m1)))) :=Sc.wr (S':=S.tick.BF (S.root v) (S.root n)) (by simp[E9.BF]) rfl rfl rfl rfl Sc.le (A9z (S:=S.tick) (f:=λd=>{ d with link:=some (S.root n) }) d1 m2)
    have vH:=UA ok hv hn h6 hw;obtain⟨d',g1⟩:∃d',(S.tick.BF (S.root v) (S.root n)).l[S.root v]?=some d'/\d'.level=S.U8 (S.root v):=by refine⟨_,by rw[Ep];simp only[E9.tick];rw[d1,y1q],?_⟩;simp only[F6];exact d6
    obtain⟨g1,g2⟩:=g1;obtain⟨m3,-,-,e3⟩:=h2.nd g1;obtain⟨dD,e4,a4,k4⟩:=A7S (A8:=S.U8 (S.root v)) h2.at vH (show S.J8+1+1<2 ^ 62 by omega) (show S.root n<(S.tick.BF (S.root v) (S.root n)).l.length by simpa[E9.BF,E9.tick]using hrn);refine⟨dD,step _ ?_,a4,k1.trans ((Kp.set K4 _ (.inr rfl)).trans k4)⟩;rw[start];have hl1:S.root v<S.tick.l.length:=hrv;have yc:S.root v<(S.tick.BF (S.root v) (S.root n)).l.length:=by simpa[E9.BF,E9.tick]using hrv
    simp only[Sc.box,I7,CU,Jn hl1,Sc.P9,e2,beq_self_eq_true,F8,P5,B4I,h2.box,Jn yc,h2.P9,e3,nd1,g2,e4]
    try rfl
 ·rw[A9 (.inl h6)];refine⟨sg,step _ ?_,h,Kp.refl _⟩;rw[start];simp[h6];rfl
end
section
variable {b i:Nat}{S:E9}{sg:List E5}
def B6F{S:E9}{ms:List Nat}(h:ms.length=S.l.length):(Pi S ms).length=S.l.length:=by unfold Pi;rw[zXq,h,Nat.min_self]
def A1X(h:Y7 b i S sg)(hl:S.l.length<2 ^ 31)(hc:S.cnt<2 ^ 31)(k A8:Nat)(ks:List Nat):
 Xu b i sg (C9.r BK [(.undef,.ptr b 0),(.agg [iN k,iN A8,iI 0,.list 1 (ks.map iN),iI 0],.val)] sg) [iN S.l.length] (S.add ⟨k,A8,none,ks⟩):=by
 obtain⟨ms,v,h⟩:=h;have hn:=B6F h.len
 let sg2:=(sg.set i (.P9 (v+1) 5 (Pi S ms++[(⟨k,A8,none,ks⟩:Nd).D9 0])))
 let S':=S.add ⟨k,A8,none,ks⟩
 have qd:H5 sg2 b=some (OW i v S):=by rw[Cv h.ne];exact h.box
 have lb2:b<sg2.length:=CY qd
 let c1:List (DV×F4):=[(.undef,.P9 i (v+1) 5 (S.l.length+1)),(iN S.mx,.val),(iN S.cnt,.val),(iN S.J8,.val)]
 have hb3:H5 (sg2.set b (.box c1)) b=some c1:=Bg lb2 c1;have hb4:H5 ((sg2.set b (.box c1)).set b (.box (OW i (v+1) S'))) b=some (OW i (v+1) S'):=Bg (by simpa using lb2) _;refine⟨(sg2.set b (.box c1)).set b (.box (OW i (v+1) S')),?_,⟨ms++[0],v+1,⟨hb4,?_,?_,?_⟩⟩,?_⟩
 ·refine(sJ _ _ _).trans ?_;rw[uH];have ag:I5 5 (DV.agg [iN k,iN A8,iI 0,.list 1 (ks.map iN),iI 0])=true:=rfl;have tk:(Pi S ms).take S.l.length=Pi S ms:=by rw[<- hn,yhq]
  have ap:KJ 5 (.list 5 (Pi S ms)) (.list 5 [(⟨k,A8,none,ks⟩:Nd).D9 0])=some (Pi S ms,[(⟨k,A8,none,ks⟩:Nd).D9 0]):=by simp only[KJ,and_self,true_and,zfq,zeq];rw[A9 ⟨by rw[hn];unfold R6;omega,by omega⟩]
  have en:DV.agg [C8 0 (DV.agg [iN k,iN A8,iI 0,.list 1 (ks.map iN),iI 0]),C8 1 (DV.agg [iN k,iN A8,iI 0,.list 1 (ks.map iN),iI 0]),iI (-1),C8 3 (DV.agg [iN k,iN A8,iI 0,.list 1 (ks.map iN),iI 0]),C8 4 (DV.agg [iN k,iN A8,iI 0,.list 1 (ks.map iN),iI 0])]=(⟨k,A8,none,ks⟩:Nd).D9 0:=rfl;rw[en];have s0:(OW i v S)[0]?=some (.undef,.P9 i v 5 S.l.length):=rfl;have s2:c1[2]?=some (iN S.cnt,.val):=rfl;have w1:(OW i v S).set 0 (.undef,.P9 i (v+1) 5 (S.l.length+1))=c1:=rfl;have w2:c1.set 2 (iN (S.cnt+1),.val)=OW i (v+1) S':=by simp[c1,OW,S',E9.add]
  have d2:U6 c1 2=some (iN S.cnt):=rfl;have sl:S'.l.length=S.l.length+1:=by simp[S',E9.add]
  simp only[ag,F8,h.box,I7,CU,h.P9,beq_self_eq_true,zjq,hn,zgq,J9,tk,ap,zfq,zeq,zPq];have C0a:H5 (sg.set i (E5.P9 (v+1) 5 (Pi S ms++[(⟨k,A8,none,ks⟩:Nd).D9 0]))) b=some (OW i v S):=qd;simp only[C0a,I7,s0,w1];have C0b:H5 ((sg.set i (E5.P9 (v+1) 5 (Pi S ms++[(⟨k,A8,none,ks⟩:Nd).D9 0]))).set b (.box c1)) b=some c1:=hb3;have C0c:H5 (((sg.set i (E5.P9 (v+1) 5 (Pi S ms++[(⟨k,A8,none,ks⟩:Nd).D9 0]))).set b (.box c1)).set b (.box (OW i (v+1) S'))) b=some (OW i (v+1) S'):=hb4;simp only[C0b,I7,d2,addN (show S.cnt<2 ^ 62 by omega),P5,F8,s2,w2,C0c,CU,A17,sl,B1I (show S.l.length<2 ^ 62 by omega)]
  try rfl
 ·rw[pO (Ne.symm h.ne),pO (Ne.symm h.ne),Zt h.lv];congr 2;simp only[Pi,E9.add];rw[List.zipWith_append h.len.symm];rfl
 ·simp[E9.add,h.len]
 ·intro m hm;rw[znq]at hm;rcases hm with hm | hm
  ·exact h.le m hm
  ·simp only[ziq]at hm;omega
 ·exact(Kp.set sg _ (.inr rfl)).trans ((Kp.set sg2 _ (.inl rfl)).trans (Kp.set _ _ (.inl rfl)))
def Y7.cnt(h:Y7 b i S sg):∃cs,H5 sg b=some cs/\U6 cs 1=some (iN S.mx)/\U6 cs 2=some (iN S.cnt):=by obtain⟨ms,v,h⟩:=h;exact⟨_,h.box,rfl,rfl⟩
theorem A7P(h:Y7 b i S sg)(ok:S.Ok)(A8:Nat):
 Xu b i sg (C9.r Ii [(.undef,.ptr b 0),(iN A8,.val)] sg) [iN (S.var A8).2.1,iN (S.var A8).2.2] (S.var A8).1:=by
 obtain⟨cs,c0,c1,c2⟩:=h.cnt;have hl:=ok.len;have hc:=ok.cm;have hm:=ok.mm;obtain⟨K4,e1,a1,k1⟩:=A1X h (by omega) (by omega) 6 A8 [];have start:=(sI b (iN A8) sg).trans (uG _ _ _ _);simp only[uw,I7,F3,z0q,G9,c0,c1,c2,PT,I6,P5,F8]at start;unfold E9.var;by_cases e:S.cnt=S.mx
 ·rw[A9 e]at start ⊢;exact⟨sg,start,h,Kp.refl _⟩
 ·rw[A7 e]at start ⊢;refine⟨K4,?_,a1,k1⟩;rw[start];have Im:C9.r BK [(.undef,.ptr b 0),(.agg [iI 6,iN A8,iI 0,.list 1 [],iI 0],.val)] sg=_:=e1;rw[Im];rfl
def B2J(h:Y7 b i S sg)(k:DV)(ks:List Nat)(hs:∀x∈ks,x<S.l.length)(hk:ks.length<2 ^ 31):De C9 b k (.list 1 (ks.map iN)) sg=DI C9 b k (.list 1 (ks.map iN)) (.list 1 (ks.map iN)) (iN ks.length) (iN ks.length) sg:=by
 rw[jr,TQ,I7];have key:∀(q j:Nat),j+q=ks.length->DI C9 b k (.list 1 (ks.map iN)) (.list 1 (ks.map iN)) (iN ks.length) (iN j) sg=DI C9 b k (.list 1 (ks.map iN)) (.list 1 (ks.map iN)) (iN ks.length) (iN ks.length) sg:=by
  intro q;induction q with
  |zero=>intro j hj;rw[show j=ks.length by omega]
  |succ q ih=>
    intro j hj;have O9:j<ks.length:=by omega
    rw[SQ];simp only[Ac,I7,F3,I6,A9 O9,IL O9,Ba,F8,YY h,z1q,U2,hs _ (z3q O9),J9,z5q,z0q,G9,addN (show j<2 ^ 62 by omega)]
    exact ih (j+1) (by omega)
 exact key ks.length 0 (by omega)
theorem A23(h:Y7 b i S sg)(ok:S.Ok){k x y:Nat}(hk:k=7\/k=8\/k=9)(hx:x<S.l.length)(hy:k≠8->y<S.l.length):
 Xu b i sg (C9.r Eg [(.undef,.ptr b 0),(iN k,.val),(iN x,.val),(iN y,.val)] sg) [iN (S.make k x y).2.1,iN (S.make k x y).2.2] (S.make k x y).1:=by
 obtain⟨cs,c0,c1,c2⟩:=h.cnt;have hl:=ok.len;have hc:=ok.cm;have hm:=ok.mm
 let ks:=if k=8 then[x]else[x,y]
 have EP:∀z∈ks,z<S.l.length:=by
  intro z hz;simp only[ks]at hz;split at hz
  ·rw[ziq.1 hz];exact hx
  ·rename_i h8;simp only[zxq,zmq,or_false]at hz;rcases hz with rfl | rfl
   ·exact hx
   ·exact hy h8
 have KV:ks.length<2 ^ 31:=by simp only[ks];split<;>simp
 obtain⟨K4,e1,a1,k1⟩:=A1X h (by omega) (by omega) k 0 ks;have st:C9.r Eg [(.undef,.ptr b 0),(iN k,.val),(iN x,.val),(iN y,.val)] sg=De C9 b (iN k) (.list 1 (ks.map iN)) sg:=by refine((nV b (iN k) (iN x) (iN y) sg).trans (rU _ _ _ _ _ _)).trans ?_;have h7:D7 .eql (iN k) (iI 7)=some (.bool (decide (k=7))):=PT k 7;have h8:D7 .eql (iN k) (iI 8)=some (.bool (decide (k=8))):=PT k 8;have h9:D7 .eql (iN k) (iI 9)=some (.bool (decide (k=9))):=PT k 9;have sl:OO 1 (.list 1 [iN x,iN y]) none (some (iI 1))=some (.list 1 [iN x]):=rfl;simp only[P5,F8,h7,h8,h9,sl,I7,F3,I6,ks];rcases hk with rfl | rfl | rfl<;>rfl
 rw[B2J h _ _ EP KV,SQ]at st;have il:I9 (DV.list 1 (ks.map iN))=true:=rfl;simp only[Ac,ztq,T9,I7,F3,z0q,G9,c0,c1,c2,PT,I6,P5,F8,il]at st;unfold E9.make;by_cases e:S.cnt=S.mx
 ·rw[A9 e]at st ⊢;exact⟨sg,st,h,Kp.refl _⟩
 ·rw[A7 e]at st ⊢;refine⟨K4,?_,a1,k1⟩;rw[st];have Im:C9.r BK [(.undef,.ptr b 0),(.agg [iN k,iI 0,iI 0,.list 1 (ks.map iN),iI 0],.val)] sg=_:=e1;rw[Im];rfl
mutual
def Zk:Ty->Nat->Nat
 |.mk _ _ ts,m=>if ts.length=0 then 0 else Va ts m 1
def Va:List Ty->Nat->Nat->Nat
 |[],_,n=>n
 |t::ts,m,n=>if m<n then n else Va ts m (n+Zk t (m-n))
end
variable (t:Ty)
theorem A6P(m:Nat):Zk t m=if t.D5.length=0 then 0 else Va t.D5 m 1:=by cases t;rw[Zk];rfl
def A6Q:∀m,(KP t<=m->Zk t m=KP t)/\(m<KP t->m<Zk t m/\Zk t m<=KP t):=by
 induction t using Ty.ind with
 |h t ih=>
   intro m;rw[A6P,TP];split
   ·exact⟨λ_=>rfl,λh=>by omega⟩
   ·have key:∀(ts:List Ty),(∀k∈ts,k∈t.D5)->∀n,(n+BZ ts<=m->Va ts m n=n+BZ ts)/\(m<n+BZ ts->m<Va ts m n/\Va ts m n<=n+BZ ts):=by
     intro ts;induction ts with
     |nil=>intro _ n;simp[BZ,Va]
     |cons k ts ihs=>
       intro hs n;obtain⟨i1,i2⟩:=ih k (hs k (zpq ..)) (m-n);have ii:=ihs (λw hw=>hs w (zrq _ hw)) (n+Zk k (m-n));rw[BZ,Va];by_cases qf:m<n
       ·rw[A9 qf];omega
       ·rw[A7 qf];by_cases g:KP k<=m-n
        ·rw[i1 g]at ii ⊢;omega
        ·have:=i2 (by omega);omega
    have:=key t.D5 (λk hk=>hk) 1;exact this
def B0W:KP t<=t.size:=by
 induction t using Ty.ind with
 |h t ih=>
   rw[TP,Ty.size_eq];split
   ·omega
   ·have:∀ts:List Ty,(∀k∈ts,k∈t.D5)->BZ ts<=(ts.map Ty.size).sum:=by
     intro ts;induction ts with
     |nil=>intro _;simp[BZ]
     |cons k ts ihs=>intro hs;have:=ih k (hs k (zpq ..));have:=ihs λw hw=>hs w (zrq _ hw);rw[BZ,zuq,zMq];omega
    have:=this t.D5 λk hk=>hk;omega
def A2O(l:List Ty):O6 (.list 3 (l.map Ty.D9))=some (iN l.length):=by simp[iN]
def A6H{l:List Ty}{j:Nat}(h:j<l.length):O0 3 (.list 3 (l.map Ty.D9)) (iN j)=some l[j].D9:=V8 h
def B7k:t.size<2 ^ 40->t.D5.length<2 ^ 31->t.rc->∀m,m<2 ^ 31->C9.p UI [t.D9,iN m]=some (iN (Zk t m)):=by
 induction t using Ty.ind with
 |h t ih=>
   intro hz hl hr m hm;rw[A2x,A4r,A6P];simp only[Az,F8,Ty.Dl,A2O,I7,show(DV.int .i64 0)=iN 0 from rfl,show(DV.int .i64 1)=iN 1 from rfl,PT,F3,I6]
   split
   ·rfl
   ·have key:∀(q j n:Nat),j+q=t.D5.length->n+BZ (t.D5.drop j)<2 ^ 41->PN C9 (iN m) (iN n) (.list 3 (t.D5.map Ty.D9)) (iN t.D5.length) (iN j)=some (iN (Va (t.D5.drop j) m n)):=by
     intro q;induction q with
     |zero=>intro j n hj hn;rw[bB,z8q (by omega)];simp only[Ac,I7,F3,I6];rw[A7 (by omega),Va]
     |succ q ihq=>
       intro j n hj hn;have O9:j<t.D5.length:=by omega
       rw[z4q O9,BZ]at hn;rw[bB,z4q O9,Va];simp only[Ac,I7,F3,I6,A9 O9,A6H O9,yV]
       split
       ·rfl
       ·rename_i qf;have hk:=z3q O9;have kz:=Ty.CG hk;have kl:(t.D5[j]).D5.length<2 ^ 31:=by
         rcases(hr.kid hk).E8 with⟨e,-⟩ | ⟨-,-,-,e,-⟩
         ·rw[e];simp
         ·have:=aV (t.D5[j]).E8.toNat;omega
        have mi:=A6Q t.D5[j] (m-n);have:Zk t.D5[j] (m-n)<=KP t.D5[j]:=by
         by_cases g:KP t.D5[j]<=m-n
         ·exact Nat.le_of_eq (mi.1 g)
         ·exact(mi.2 (by omega)).2
        simp only[B1H (show n<=m by omega) (show m<2 ^ 62 by omega),I7,Ty.CK,Ty.FZ,Ty.Dl,Ty.AA,Ty.ag]
        rw[ih _ hk (by omega) kl (hr.kid hk) (m-n) (by omega),I7,B0c (by omega),I7];simp only[addN (show j<2 ^ 62 by omega),I7]
        exact ihq (j+1) _ (by omega) (by omega)
    have iz:=B0W t;rw[TP,A7 (by assumption)]at iz;have:=key t.D5.length 0 1 (by omega) (by rw[zcq];omega);rw[zcq]at this;exact this
theorem B87:t.rc->∀(S:E9)(sg:List E5),Y7 b i S sg->S.Ok->S.cnt+KP t<=S.mx->Xu b i sg (C9.r MG [(.undef,.ptr b 0),(t.D9,.val)] sg) [iN (KZ t S).2] (KZ t S).1:=by
 induction t using Ty.ind with
 |h t ih=>
   intro hr S sg h ok hc;have start:=(sK b t.D9 sg).trans (uI _ _ _ _);rw[lL];rw[TP]at hc;simp only[Az,F8,Ty.CK,Ty.Dl,A2O,I7,show(DV.int .i64 0)=iN 0 from rfl,PT,F3,I6]at start;split
   ·rename_i hl;rw[A9 hl]at start;have:D7 .sub (iI t.E8) (iI 1)=some (iN (t.E8-1).toNat):=by
     rcases hr.E8 with⟨-,h1,h2,-⟩ | ⟨e,-⟩
     ·rw[Jo,Gq (by omega) (by omega)];simp only[iN]
      congr 2;omega
     ·exact absurd (zRq.1 hl) e
    simp only[this,I7]at start;exact⟨sg,start,h,Kp.refl _⟩
   ·rename_i hl;rw[A7 hl]at start hc;have key:∀(q j:Nat)(o:List Nat)(S:E9)(sg:List E5),j+q=t.D5.length->o.length<=j->Y7 b i S sg->S.Ok->S.cnt+BZ (t.D5.drop j)<=S.mx->
     ∃sg',Df C9 b (.list 1 (o.map iN)) (.list 3 (t.D5.map Ty.D9)) (iN t.D5.length) (iN j) t.D9 sg=Df C9 b (.list 1 ((o++(BH (t.D5.drop j) S).2).map iN)) (.list 3 (t.D5.map Ty.D9)) (iN t.D5.length) (iN t.D5.length) t.D9 sg'/\Y7 b i (BH (t.D5.drop j) S).1 sg'/\Kp b i sg sg':=by
     intro q;induction q with
     |zero=>intro j o S sg hj ho h ok hc;rw[z8q (by omega),show j=t.D5.length by omega];exact⟨sg,by rw[BH];simp,h,Kp.refl _⟩
     |succ q ihq=>
       intro j o S sg hj ho h ok hc;have O9:j<t.D5.length:=by omega
       have h2:t.D5.length<2 ^ 31:=by
        rcases hr.E8 with⟨e,-⟩ | ⟨-,-,-,e,-⟩
        ·rw[e];simp
        ·have:=aV t.E8.toNat;omega
       rw[z4q O9,BZ]at hc;rw[z4q O9,BH];have hk:=z3q O9;obtain⟨K4,e1,a1,k1⟩:=ih _ hk (hr.kid hk) S sg h ok (by omega);obtain⟨p,-⟩:=aI _ (hr.kid hk) S ok (by omega);have pc:=p.cnt;have pm:=p.U0.mx;obtain⟨sg2,e2,a2,k2⟩:=ihq (j+1) (o++[(KZ t.D5[j] S).2]) _ K4 (by omega) (by simp;omega) a1 p.ok (by omega);refine⟨sg2,?_,a2,k1.trans k2⟩;rw[Tg];simp only[Ac,I7,F3,I6,A9 O9,A6H O9,Ty.CK,Ty.FZ,Ty.Dl,Ty.AA,Ty.ag,e1,z1q,P5,F8,zP (show o.length<2 ^ 31 by omega),addN (show j<2 ^ 62 by omega)]
       rw[e2];simp
    obtain⟨K4,e1,a1,k1⟩:=key t.D5.length 0 [] S sg (by omega) (by simp) h ok (by rw[zcq];omega);rw[zcq]at e1 a1;obtain⟨p,-⟩:A43 S (BH t.D5 S).1 (BZ t.D5)/\True:=by
     have:∀(ts:List Ty),(∀k∈ts,k∈t.D5)->∀S:E9,S.Ok->S.cnt+BZ ts<=S.mx->A43 S (BH ts S).1 (BZ ts):=by
      intro ts;induction ts with
      |nil=>intro _ S ok _;exact⟨ok,Da.refl S,rfl,rfl⟩
      |cons k ts ihs=>intro hs S ok hc;rw[BZ]at hc;obtain⟨p,-⟩:=aI k (hr.kid (hs k (zpq ..))) S ok (by omega);have pc:=p.cnt;have pm:=p.U0.mx;have c:=ihs (λw hw=>hs w (zrq _ hw)) _ p.ok (by omega);rw[BH,BZ];exact⟨c.ok,p.U0.trans c.U0,by have:=c.cnt;simp only;omega,c.J8.trans p.J8⟩
     exact⟨this t.D5 (λk hk=>hk) S ok (by omega),trivial⟩
    have pl:=p.ok.len;have pc:=p.ok.cm;have pm:=p.ok.mm;obtain⟨sg2,e2,a2,k2⟩:=A1X a1 (by omega) (by omega) t.E8.toNat 0 (BH t.D5 S).2;refine⟨sg2,?_,a2,k1.trans k2⟩;refine start.trans ?_;have Im:Df C9 b (.list 1 []) (.list 3 (t.D5.map Ty.D9)) (iN t.D5.length) (iN 0) t.D9 sg=_:=e1;rw[Im,Tg];have hkd:(DV.int .i64 t.E8)=iN t.E8.toNat:=by rcases hr.E8 with⟨-,h1,h2,-⟩ | ⟨-,h1,h2,-⟩<;>simp only[iN]<;>congr 1<;>omega
    simp only[Ac,ztq,T9,I7,F3,z0q,G9,Ty.CK,hkd,P5,F8,zsq];have e2':C9.r BK [(.undef,.ptr b 0),(.agg [iN t.E8.toNat,iI 0,iI 0,.list 1 ((BH t.D5 S).2.map iN),iI 0],.val)] K4=_:=e2;rw[e2'];rfl
theorem B83(h:Y7 b i S sg)(ok:S.Ok){t:Ty}(ht:t.rc)(hz:t.size<2 ^ 40)(YM:t.thin=true):
 Xu b i sg (C9.r Rq [(.undef,.ptr b 0),(t.D9,.val)] sg) [iN (S.put t).2.1,iN (S.put t).2.2] (S.put t).1:=by
 obtain⟨cs,c0,c1,c2⟩:=h.cnt;have hc:=ok.cm;have hm:=ok.mm;have hl:t.D5.length<2 ^ 31:=by
  rcases ht.E8 with⟨e,-⟩ | ⟨-,-,-,e,-⟩
  ·rw[e];simp
  ·have:=aV t.E8.toNat;omega
 have start:=(sH b t.D9 sg).trans (uF _ _ _ _);simp only[Az,F8,Ty.CK,Ty.FZ,Ty.Dl,Ty.AA,Ty.ag,Jz t YM,ht.1,F6,I7,Dz,J9,z5q,Q3,z0q,G9,qz t YM,ht.2,U2,F3,c0,c1,c2,B1H hc (show S.mx<2 ^ 62 by omega),B7k t hz hl ht (S.mx-S.cnt) (by omega),yV,I6]at start;have mi:=A6Q t (S.mx-S.cnt);unfold E9.put;by_cases g:KP t>S.mx-S.cnt
 ·rw[A9 (mi.2 g).1]at start;rw[A9 g];exact⟨sg,start,h,Kp.refl _⟩
 ·rw[A7 (by rw[mi.1 (by omega)];omega)]at start;rw[A7 g];obtain⟨K4,e1,a1,k1⟩:=B87 t ht S sg h ok (by omega);refine⟨K4,?_,a1,k1⟩;rw[start,e1];rfl
end
section
variable {b i v:Nat}{S:E9}{ms:List Nat}{sg:List E5}{k:Nat}
def Ee.gB(h:Ee b i S ms v sg)(h1:k≠b)(h2:k≠i)(o:E5):Ee b i S ms v (sg.set k o) :=h.mono (z2q h1) (z2q h2)
def EX{sg:List E5}(h:k<sg.length)(es:List (DV×DV)):Q5 (sg.set k (.map false es)) k=some (false,es):=by simp[Q5,h]
def Lr{sg:List E5}{j:Nat}(h:k≠j)(o:E5):Q5 (sg.set k o) j=Q5 sg j:=by unfold Q5;rw[z2q h]
variable (es:List (DV×DV))
def B05(a c:Nat)(x:DV):V7 (Bb es (iN a) x) (iN c)=if a=c then some x else V7 es (iN c):=by
 have:=fM es (a:Int) (c:Int) x;rw[show iN a=.int .i64 (a:Int)from rfl,show iN c=.int .i64 (c:Int)from rfl,this];by_cases h:a=c
 ·rw[A9 h,A9 (by omega)]
 ·rw[A7 h,A7 (by omega)]
def NZ(f:Nat->Option DV):Prop:=∀r:Nat,V7 es (iN r)=none\/V7 es (iN r)=f r
theorem NZ.nil(f:Nat->Option DV):NZ [] f:=λr=>.inl rfl
def NZ.set{es:List (DV×DV)}{f:Nat->Option DV}(h:NZ es f){r:Nat}{x:DV}(hx:f r=some x):NZ (Bb es (iN r) x) f:=λc=>by
 rw[B05];by_cases e:r=c
 ·subst e;rw[A9 rfl];exact .inr hx.symm
 ·rw[A7 e];exact h c
def rdc(b m k1 k2:Nat):List (DV×F4):=[(.undef,.ptr b 0),(iN m,.val),(.undef,.map k1),(.undef,.map k2)]
structure dh(b i:Nat)(S:E9)(m p k1 k2:Nat)(sg:List E5)(e1 e2:List (DV×DV)):Prop where
 at_:∃ms v,Ee b i S ms v sg
 box:H5 sg p=some (rdc b m k1 k2)
 m1:Q5 sg k1=some (false,e1)
 m2:Q5 sg k2=some (false,e2)
def dh.ne{m p k1 k2:Nat}{e1 e2:List (DV×DV)}(h:dh b i S m p k1 k2 sg e1 e2):k1≠b/\k1≠i/\k1≠p/\k2≠b/\k2≠i/\k2≠p/\k1<sg.length/\k2<sg.length:=by
 obtain⟨ms,v,a⟩:=h.at_;have x1:=XI a.box;have x2:=A0s a.P9;have x3:=XI h.box;have x4:sg[k1]?=some (.map false e1):=by have:=h.m1;unfold Q5 at this;split at this<;>simp_all
 have x5:sg[k2]?=some (.map false e2):=by have:=h.m2;unfold Q5 at this;split at this<;>simp_all
 refine⟨?_,?_,?_,?_,?_,?_,(z7q.1 x4).1,(z7q.1 x5).1⟩<;>intro e<;>subst e<;>simp_all
def dh.set1{m p k1 k2:Nat}{e1 e2:List (DV×DV)}(h:dh b i S m p k1 k2 sg e1 e2)(hk:k1≠k2)(es:List (DV×DV)):dh b i S m p k1 k2 (sg.set k1 (.map false es)) es e2:=by obtain⟨a1,a2,a3,a4,a5,a6,a7,a8⟩:=h.ne;obtain⟨ms,v,a⟩:=h.at_;exact⟨⟨ms,v,a.gB a1 a2 _⟩,by rw[Cv a3];exact h.box,EX a7 es,by rw[Lr hk];exact h.m2⟩
def dh.set2{m p k1 k2:Nat}{e1 e2:List (DV×DV)}(h:dh b i S m p k1 k2 sg e1 e2)(hk:k1≠k2)(es:List (DV×DV)):dh b i S m p k1 k2 (sg.set k2 (.map false es)) e1 es:=by obtain⟨a1,a2,a3,a4,a5,a6,a7,a8⟩:=h.ne;obtain⟨ms,v,a⟩:=h.at_;exact⟨⟨ms,v,a.gB a4 a5 _⟩,by rw[Cv a6];exact h.box,by rw[Lr (Ne.symm hk)];exact h.m1,EX a8 es⟩
def U9.B50{S:E9}{n:Nat}{t:NT}(h:U9 S n t):S.K5 t.r=t:=h.self.eq
def A7I{m:Nat}:∀(ts:List NT)(k:Nat),k<=m+1->NT.Le m ts k<=m+1
 |[],k,h=>by rw[NT.Le];exact h
 |t::ts,k,h=>by rw[NT.Le];exact A7I ts _ (ygq ..)
def B5l(m:Nat)(t:NT):t.Bu m<=m+1:=by cases t;rw[NT.Bu];exact A7I _ _ (by omega)
def B7o(ok:S.Ok){m p k1 k2:Nat}(hm:m<2 ^ 31)(hk:k1≠k2)(t:NT):∀(n:Nat),U9 S n t->∀(sg:List E5)(e1 e2:List (DV×DV)),dh b i S m p k1 k2 sg e1 e2->NZ e1 (λr=>some (iN ((S.K5 r).Bu m)))->
 ∃es,C9.r Iy [(.undef,.ptr p 0),(iN n,.val)] sg=some ([iN (t.Bu m)],sg.set k1 (.map false es))/\NZ es (λr=>some (iN ((S.K5 r).Bu m))):=by
 induction t using NT.ind with
 |h r k ts ih=>
   intro n hu sg e1 e2 h T;obtain⟨d,d1,d2,d3,d4,d5⟩:=hu.nd;simp only[NT.JK,NT.VV,NT.U7]at d1 d3 d4 d5;obtain⟨ms,v,a⟩:=h.at_;obtain⟨q1,q2,q3,-,-,-,q7,-⟩:=h.ne;obtain⟨mk,-,-,e⟩:=a.nd d1;have hr:=hu.Gs;have Sg:=hu.root;have hs:=hu.B50;simp only[NT.JK]at hr Sg hs;have cp:X8 (rdc b m k1 k2) 0=some b:=rfl;have cm:Bn (rdc b m k1 k2) 2=some k1:=rfl;have cd:U6 (rdc b m k1 k2) 1=some (iN m):=rfl;have KV:=ok.k2 d1;rw[iT,j_];simp only[h.box,I7,cp,RP a Sg,z1q,cm,Lm,zjq,F8,h.m1,beq_self_eq_true,F3,a.box,CU,Jn hr,a.P9,e,nd3,TQ];rcases T r with g | g
   ·rw[g];simp only[zzq,z0q,G9];have key:∀(q j c:Nat)(sg:List E5)(e1 e2:List (DV×DV)),j+q=ts.length->c<=m+1->dh b i S m p k1 k2 sg e1 e2->NZ e1 (λr=>some (iN ((S.K5 r).Bu m)))->NT.Le m (ts.drop j) c=(NT.mk r k ts).Bu m->
     ∃es,GH C9 p (iN r) (iN c) (.list 1 (d.D5.map iN)) (iN d.D5.length) (iN j) sg=some ([iN ((NT.mk r k ts).Bu m)],sg.set k1 (.map false es))/\NZ es (λr=>some (iN ((S.K5 r).Bu m))):=by
     intro q;induction q with
     |zero=>intro j c sg e1 e2 hj hc h T he;rw[z8q (by omega),NT.Le]at he;refine⟨Bb e1 (iN r) (iN c),?_,T.set (by rw[hs,he])⟩;rw[QM];simp only[Ac,I7,F3,I6];rw[A7 (by omega)];simp only[h.box,I7,cm,Lm,zjq,F8,h.m1,beq_self_eq_true,he]
     |succ q ihq=>
       intro j c sg e1 e2 hj hc h T he;have FT:j<ts.length:=by omega
       have O9:j<d.D5.length:=by omega
       rw[z4q FT,NT.Le]at he;obtain⟨es,x1,x2⟩:=ih ts[j] (z3q FT) d.D5[j] (d5 j O9 FT) sg e1 e2 h T;have h2:=h.set1 hk es;obtain⟨es2,y1,y2⟩:=ihq (j+1) (min (c+ts[j].Bu m) (m+1)) _ es e2 (by omega) (ygq ..) h2 x2 he;refine⟨es2,?_,y2⟩;rw[zNq]at y1;rw[QM];have sm:=B5l m ts[j];have hp:(sg.set k1 (E5.map false es))[p]?=sg[p]?:=z2q q3;have oe:∀{β : Type}(y:Option β),Mv ((sg.set k1 (E5.map false es))[p]?=sg[p]?) y=y:=λy=>by unfold Mv;rw[A9 hp]
       simp only[Ac,I7,F3,I6,A9 O9,IL O9,Ba,F8,x1,z1q,B0c (show c+ts[j].Bu m<2 ^ 62 by omega),h2.box,cd,oe,addN (show m<2 ^ 62 by omega),B8u,addN (show j<2 ^ 62 by omega)]
       exact y1
    obtain⟨es,x1,x2⟩:=key ts.length 0 1 sg e1 e2 (by omega) (by omega) h T (by rw[zcq,NT.Bu]);exact⟨es,x1,x2⟩
   ·rw[g];simp only[zAq,F6,zVq,hs];refine⟨e1,?_,T⟩;have Sc:=h.m1;have:sg.set k1 (.map false e1)=sg:=by
     have x4:sg[k1]?=some (.map false e1):=by unfold Q5 at Sc;split at Sc<;>simp_all
     refine zKq λj=>?_;rw[zwq];split
     ·rename_i e;subst e;rw[x4];try simp[q7]
     ·rfl
    rw[this]
theorem A96:zTy.D9=.agg (Fq []):=by rw[Ty.N8];rfl
def B89(ok:S.Ok){m p k1 k2:Nat}(hk:k1≠k2)(t:NT):∀(n:Nat),U9 S n t->∀(sg:List E5)(e1 e2:List (DV×DV)),dh b i S m p k1 k2 sg e1 e2->NZ e2 (λr=>some (S.K5 r).ty.D9)->
 ∃es,C9.r GR [(.undef,.ptr p 0),(iN n,.val)] sg=some ([t.ty.D9],sg.set k2 (.map false es))/\NZ es (λr=>some (S.K5 r).ty.D9):=by
 induction t using NT.ind with
 |h r k ts ih=>
   intro n hu sg e1 e2 h T;obtain⟨d,d1,d2,d3,d4,d5⟩:=hu.nd;simp only[NT.JK,NT.VV,NT.U7]at d1 d3 d4 d5;obtain⟨ms,v,a⟩:=h.at_;obtain⟨-,-,-,q1,q2,q3,-,q7⟩:=h.ne;obtain⟨mk,-,-,e⟩:=a.nd d1;have hr:=hu.Gs;have Sg:=hu.root;have hs:=hu.B50;simp only[NT.JK]at hr Sg hs;have cp:X8 (rdc b m k1 k2) 0=some b:=rfl;have cm:Bn (rdc b m k1 k2) 3=some k2:=rfl;have KV:=ok.k2 d1;rw[kR,nG];simp only[h.box,I7,cp,RP a Sg,z1q,cm,Lm,zjq,F8,h.m2,beq_self_eq_true,F3,a.box,CU,Jn hr,a.P9,e,nd0,P5,show(DV.int .i64 6)=iN 6 from rfl,PT,I6]
   rcases T r with g | g
   ·rw[g];have ia:I5 3 (DV.agg (Fq []))=true:=rfl;simp only[zzq,z0q,G9,yqq,ia,F8];have key:∀(q j:Nat)(o:List Ty)(sg:List E5)(e1 e2:List (DV×DV)),j+q=ts.length->o=(ts.take j).map NT.ty->dh b i S m p k1 k2 sg e1 e2->NZ e2 (λr=>some (S.K5 r).ty.D9)->∀nn:Nat,nn=(if k=6 then r else 0)->
     ∃es,EK C9 p (iN r) (.list 1 (d.D5.map iN)) (iN d.D5.length) (iN j) (iN k) (iN nn) (.list 3 (o.map Ty.D9)) sg=some ([(NT.mk r k ts).ty.D9],sg.set k2 (.map false es))/\NZ es (λr=>some (S.K5 r).ty.D9):=by
     intro q;induction q with
     |zero=>
       intro j o sg e1 e2 hj ho h T nn hn;have he:DV.agg [iN k,iN nn,.list 3 (o.map Ty.D9)]=(NT.mk r k ts).ty.D9:=by
        rw[NT.ty,NT.wE,Ty.N8,ho,zvq (by omega)];simp only[Ty.IW,Ty.XA,Ty.U7,iN,hn]
        split<;>rfl
       refine⟨Bb e2 (iN r) (NT.mk r k ts).ty.D9,?_,T.set (by rw[hs])⟩;rw[Rh];simp only[Ac,I7,F3,I6];rw[A7 (by omega)];simp only[h.box,I7,cm,Lm,zjq,F8,h.m2,beq_self_eq_true,he]
     |succ q ihq=>
       intro j o sg e1 e2 hj ho h T nn hn;have FT:j<ts.length:=by omega
       have O9:j<d.D5.length:=by omega
       obtain⟨es,x1,x2⟩:=ih ts[j] (z3q FT) d.D5[j] (d5 j O9 FT) sg e1 e2 h T;have h2:=h.set2 hk es;obtain⟨es2,y1,y2⟩:=ihq (j+1) (o++[ts[j].ty]) _ e1 es (by omega) (by rw[ho,zkq FT,ycq];rfl) h2 x2 nn hn;refine⟨es2,?_,y2⟩;rw[zNq]at y1;rw[Rh];have ap:Dh 3 (.list 3 (o.map Ty.D9)) (.list 3 [ts[j].ty.D9])=some (.list 3 ((o++[ts[j].ty]).map Ty.D9)):=by rw[JW (by rw[ho];simp[R6];omega)];simp
       simp only[Ac,I7,F3,I6,A9 O9,IL O9,Ba,F8,x1,z1q,Az,ap,addN (show j<2 ^ 62 by omega)]
       exact y1
    have eight:∀nn:Nat,IG C9 p (iN r) (iN k) (iN nn) sg=EK C9 p (iN r) (.list 1 (d.D5.map iN)) (iN d.D5.length) (iN 0) (iN k) (iN nn) (.list 3 []) sg:=by
     intro nn;rw[iD];simp only[h.box,I7,cp,a.box,CU,Jn hr,a.P9,e,beq_self_eq_true,F8,nd3,TQ]
     try rfl
    by_cases h6:d.E8=6
    ·rw[A9 h6,d3,eight r];exact key ts.length 0 [] sg e1 e2 (by omega) rfl h T r (by rw[A9 (by omega)])
    ·rw[A7 h6];have:=key ts.length 0 [] sg e1 e2 (by omega) rfl h T 0 (by rw[A7 (by omega)]);rw[d3];exact⟨this.choose,(eight 0).trans this.choose_spec.1,this.choose_spec.2⟩
   ·rw[g];simp only[zAq,F6,zVq,hs,Az,F8,Ty.CK,Ty.FZ,Ty.Dl,Ty.AA,Ty.ag];refine⟨e2,?_,T⟩;have Sc:=h.m2;have:sg.set k2 (.map false e2)=sg:=by
     have x4:sg[k2]?=some (.map false e2):=by unfold Q5 at Sc;split at Sc<;>simp_all
     refine zKq λj=>?_;rw[zwq];split
     ·rename_i e;subst e;rw[x4];try simp[q7]
     ·rfl
    rw[this]
theorem B7e(h:Y7 b i S sg)(ok:S.Ok){n:Nat}(hn:n<S.l.length):Xu b i sg (C9.r Hf [(.undef,.ptr b 0),(iN n,.val)] sg) [(S.read n).2.1.D9,iN (S.read n).2.2] (S.read n).1:=by
 obtain⟨cs,c0,c1,c2⟩:=h.cnt;have hc:=ok.cm;have hm:=ok.mm;obtain⟨ms,v,a⟩:=id h
 let k:=sg.length
 let K4:=sg++[.map false [],.map false [],.box (rdc b (S.mx-S.cnt) k (k+1))]
 have R1:dh b i S (S.mx-S.cnt) (k+2) k (k+1) K4 [] []:=by refine⟨⟨ms,v,a.app _⟩,?_,?_,?_⟩<;>simp[K4,H5,Q5,k,zoq]
 have hk:k≠k+1:=by omega
 obtain⟨es,x1,x2⟩:=B7o ok (show S.mx-S.cnt<2 ^ 31 by omega) hk (S.K5 n) n (ok.K5 hn) K4 [] [] R1 (NZ.nil _);have R2:=R1.set1 hk es;have start:=(nW b (iN n) sg).trans (rV _ _ _ _);have s1:((sg++[E5.map false []])++[E5.map false []])++[E5.box [(.undef,(.ptr b 0)),(iN (S.mx-S.cnt),.val),(.undef,(F4.map sg.length)),(.undef,(F4.map (sg++[E5.map false []]).length))]]=K4:=by simp[K4,rdc,k]
 have s2:((sg++[E5.map false []])++[E5.map false []]).length=k+2:=by simp[k]
 have cd:U6 (rdc b (S.mx-S.cnt) k (k+1)) 1=some (iN (S.mx-S.cnt)):=rfl;simp only[YY h,I7,z1q,U2,hn,J9,z5q,F3,z0q,G9,c0,c1,c2,B1H hc (show S.mx<2 ^ 62 by omega),P5,F8,s1,s2,x1,R2.box,cd,yV,I6]at start;have K1:Kp b i sg K4:=Kp.app sg _;have K2:Kp b i sg (K4.set k (.map false es)):=⟨by simp[K4],λj hj h1 h2=>by rw[z2q (by omega)];exact K1.eq j hj h1 h2⟩
 unfold E9.read;by_cases g:(S.K5 n).Bu (S.mx-S.cnt)>S.mx-S.cnt
 ·rw[A9 g]at start ⊢;exact⟨_,by rw[start,<- A96];rfl,by obtain⟨ms,v,a⟩:=R2.at_;exact⟨ms,v,a⟩,K2⟩
 ·rw[A7 g]at start ⊢;obtain⟨ms2,v2,a2⟩:=R2.at_
  let S':E9:={ S with cnt:=S.cnt+(S.K5 n).Bu (S.mx-S.cnt) }
  have ok':S'.Ok:=⟨λn hn=>by obtain⟨t,ht⟩:=ok.wf n hn;exact⟨t,ht.like (show Y6 S S' from Y6.refl S)⟩,ok.base,by have:=ok.lc;simp only[S'];omega,by simp only[S'];omega,ok.mm,ok.ki⟩
  let sg2:=(K4.set k (.map false es)).set b (.box (OW i v2 S'))
  have a3:Ee b i S' ms2 v2 sg2:=⟨Bg a2.lb _,by rw[pO (Ne.symm a2.ne)];exact a2.P9,a2.len,a2.le⟩;obtain⟨q1,q2,q3,q4,q5,q6,-,-⟩:=R2.ne;have pb:k+2≠b:=by have:=a.lb;omega
  have R3:dh b i S' (S.mx-S.cnt) (k+2) k (k+1) sg2 es []:=⟨⟨ms2,v2,a3⟩,by rw[Cv (Ne.symm pb)];exact R2.box,by rw[Lr (Ne.symm q1)];exact R2.m1,by rw[Lr (Ne.symm q4)];exact R2.m2⟩;obtain⟨es2,y1,y2⟩:=B89 ok' hk (S.K5 n) n ((ok.K5 hn).like (show Y6 S S' from Y6.refl S)) sg2 es [] R3 (NZ.nil _);have R4:=R3.set2 hk es2;have w1:(OW i v2 S).set 2 (iN (S.cnt+(S.K5 n).Bu (S.mx-S.cnt)),.val)=OW i v2 S':=rfl;have w2:(OW i v2 S)[2]?=some (iN S.cnt,.val):=rfl;refine⟨_,?_,by obtain⟨ms,v,a⟩:=R4.at_;exact⟨ms,v,a⟩,?_⟩;rotate_left
  ·refine⟨by simp[sg2,K4],λj hj h1 h2=>?_⟩;rw[z2q (by omega),z2q (Ne.symm h1)];exact K2.eq j hj h1 h2
  ·rw[start];simp only[a2.box,I7,B7p,B0c (show S.cnt+(S.K5 n).Bu (S.mx-S.cnt)<2 ^ 62 by omega),P5,F8,w2]
   have y1':C9.r GR [(.undef,.ptr (k+2) 0),(iN n,.val)] ((K4.set k (.map false es)).set b (.box ((OW i v2 S).set 2 (iN (S.cnt+(S.K5 n).Bu (S.mx-S.cnt)),.val))))=_:=y1;rw[y1'];simp only[I7,z1q,Az,F8,Ty.CK,Ty.FZ,Ty.Dl,Ty.AA,Ty.ag]
   try rfl
end
def Vq(k mx:Nat):List E5:=[.box [(.undef,.P9 1 (k+1) 5 k),(iN mx,.val),(iN 0,.val),(iN 0,.val)],.P9 (k+1) 5 ((List.range k).map λj=>(⟨j+1,0,none,[]⟩:Nd).D9 0)]
theorem oQ(mx:Nat):∀k,k=1\/k=2\/k=3\/k=4->GZ C9 0 (.list 1 [iN 1,iN 2,iN 3,iN 4,iN 5]) (iN 5) (iN k) (Vq k mx)=GZ C9 0 (.list 1 [iN 1,iN 2,iN 3,iN 4,iN 5]) (iN 5) (iN (k+1)) (Vq (k+1) mx):=by rintro k (rfl | rfl | rfl | rfl)<;>rw[Ur]<;>rfl
theorem B82(L:Int):C9.r gV [(iI L,.val)] []=some ([.int .u64 0],Vq 5 (min (max L 0) 65536).toNat):=by
 refine(A4M _ _).trans ?_;rw[A5X];have h1:zT (iI L) (iI 0)=some (iI (max L 0)):=by
  simp only[zT,F6]
  congr 2;split<;>omega
 have h2:ae (iI (max L 0)) (iI 65536)=some (iN (min (max L 0) 65536).toNat):=by
  simp only[ae,F6,iN]
  congr 2;split<;>omega
 simp only[h1,h2,I7,P5,F8];generalize (min (max L 0) 65536).toNat=mx;have e0:GZ C9 ([]:List E5).length (.list 1 [iI 1,iI 2,iI 3,iI 4,iI 5]) (iI 5) (iI 0) ([]++[E5.box [((.list 5 []),.full),(iN mx,.val),((iI 0),.val),((iI 0),.val)]])=GZ C9 0 (.list 1 [iN 1,iN 2,iN 3,iN 4,iN 5]) (iN 5) (iN 1) (Vq 1 mx):=by rw[Ur];rfl
 rw[e0,oQ mx 1 (by simp),oQ mx 2 (by simp),oQ mx 3 (by simp),oQ mx 4 (by simp),Ur];rfl
def B9a(mx:Nat):Y7 0 1 (DX mx) (Vq 5 mx):=⟨[0,0,0,0,0],6,rfl,rfl,rfl,by simp[DX]⟩
def A7N{b i:Nat}{S:E9}{sg:List E5}(h:Y7 b i S sg):C9.r Oq [(.undef,.ptr b 0)] sg=some ([iN S.cnt],sg):=by refine(kL _ _).trans ?_;obtain⟨cs,c0,c1,c2⟩:=h.cnt;rw[m_];simp only[c0,c2,I7]
section
variable {b i v:Nat}{S:E9}{ms:List Nat}{sg:List E5}
def yI(b kt kh km:Nat):List (DV×F4):=[(.undef,.ptr b 0),(.undef,.map kt),(.undef,.map kh),(.undef,.map km)]
variable (es:List (DV×DV))(K:List (Nat×Nat))
def Il:Prop:=∀r:Nat,V7 es (iN r)=(E_ K r).map iN
theorem Il.nil:Il [] []:=λr=>rfl
variable {es:List (DV×DV)}{K:List (Nat×Nat)}
def Il.set(h:Il es K){r t:Nat}(hr:r∉K.map (·.1)):Il (Bb es (iN r) (iN t)) (K++[(r,t)]):=λc=>by
 rw[B05,B2r hr];split
 ·rfl
 ·exact h c
def Qt(S0:E9)(ks:List Nat)(es:List (DV×DV)):Prop:=∀r:Nat,V7 es (iN r)=none\/∃t,U9 S0 r t/\V7 es (iN r)=some (iN (if t.has ks then 1 else 2))
variable {S0:E9}
def Qt.set{ks:List Nat}(h:Qt S0 ks es){r:Nat}{t:NT}(hu:U9 S0 r t):Qt S0 ks (Bb es (iN r) (iN (if t.has ks then 1 else 2))):=λc=>by
 rw[B05];split
 ·rename_i e;subst e;exact .inr ⟨t,hu,rfl⟩
 ·exact h c
structure SB(b i:Nat)(S:E9)(p kt kh km:Nat)(sg:List E5)(et eh em:List (DV×DV)):Prop where
 at_:Y7 b i S sg
 box:H5 sg p=some (yI b kt kh km)
 mt:Q5 sg kt=some (false,et)
 mh:Q5 sg kh=some (false,eh)
 mm:Q5 sg km=some (false,em)
def dE{sg:List E5}{k:Nat}(h:Q5 sg k=some (false,es)):sg[k]?=some (.map false es):=by unfold Q5 at h;split at h<;>simp_all
structure Apart(b i p kt kh km n:Nat):Prop where
 a:kt≠kh/\kt≠km/\kh≠km
 t:kt≠b/\kt≠i/\kt≠p
 h:kh≠b/\kh≠i/\kh≠p
 m:km≠b/\km≠i/\km≠p
 pp:p≠b/\p≠i
 l:kt<n/\kh<n/\km<n/\p<n
variable {p kt kh km:Nat}{et eh em:List (DV×DV)}
def SB.B1v(h:SB b i S p kt kh km sg et eh em)(A:Apart b i p kt kh km sg.length)(es:List (DV×DV)):SB b i S p kt kh km (sg.set kh (.map false es)) et es em:=by obtain⟨ms,v,a⟩:=h.at_;exact⟨⟨ms,v,a.gB A.h.1 A.h.2.1 _⟩,by rw[Cv A.h.2.2];exact h.box,by rw[Lr (Ne.symm A.a.1)];exact h.mt,EX A.l.2.1 es,by rw[Lr A.a.2.2];exact h.mm⟩
def SB.C0D(h:SB b i S p kt kh km sg et eh em)(A:Apart b i p kt kh km sg.length)(es:List (DV×DV)):SB b i S p kt kh km (sg.set km (.map false es)) et eh es:=by obtain⟨ms,v,a⟩:=h.at_;exact⟨⟨ms,v,a.gB A.m.1 A.m.2.1 _⟩,by rw[Cv A.m.2.2];exact h.box,by rw[Lr (Ne.symm A.a.2.1)];exact h.mt,by rw[Lr (Ne.symm A.a.2.2)];exact h.mh,EX A.l.2.2.1 es⟩
def Apart.len{n m:Nat}(A:Apart b i p kt kh km n)(h:n<=m):Apart b i p kt kh km m:=⟨A.a,A.t,A.h,A.m,A.pp,by have:=A.l;omega⟩
def SB.kp{S':E9}{sg':List E5}(h:SB b i S p kt kh km sg et eh em)(A:Apart b i p kt kh km sg.length)(k:Kp b i sg sg')(a:Y7 b i S' sg'):SB b i S' p kt kh km sg' et eh em:=by
 refine⟨a,?_,?_,?_,?_⟩
 ·rw[Jy (k.eq p A.l.2.2.2 A.pp.1 A.pp.2)];exact h.box
 all_goals unfold Q5
 ·rw[k.eq kt A.l.1 A.t.1 A.t.2.1,dE h.mt]
 ·rw[k.eq kh A.l.2.1 A.h.1 A.h.2.1,dE h.mh]
 ·rw[k.eq km A.l.2.2.1 A.m.1 A.m.2.1,dE h.mm]
theorem Nt{sg:List E5}{k:Nat}(h:Q5 sg k=some (false,es)):sg.set k (.map false es)=sg:=by
 have x4:=dE h;refine zKq λj=>?_;rw[zwq];split
 ·rename_i e;subst e;rw[x4];simp[(z7q.1 x4).1]
 ·rfl
theorem A7R(hS:Y6 S0 S)(k2:∀(n:Nat)(d:Nd),S.l[n]?=some d->d.D5.length<=2)(t:NT):∀(sg:List E5)(eh:List (DV×DV)),U9 S0 t.r t->SB b i S p kt kh km sg et eh em->Apart b i p kt kh km sg.length->Il et K->Qt S0 (K.map (·.1)) eh->
 ∃es,C9.r Eh [(.undef,.ptr p 0),(iN t.r,.val)] sg=some ([.bool (t.has (K.map (·.1)))],sg.set kh (.map false es))/\Qt S0 (K.map (·.1)) es:=by
 induction t using NT.ind with
 |h r k ts ih=>
   intro sg eh yf h A hK T;have hu:=yf.like hS;obtain⟨d,d1,d2,d3,d4,d5⟩:=hu.nd;obtain⟨d',d1',-,-,d4',d5'⟩:=yf.nd;simp only[NT.JK,NT.VV,NT.U7]at d1 d3 d4 d5 hu yf d1' d4' d5';obtain⟨ms,v,a⟩:=h.at_;obtain⟨mk,-,-,e⟩:=a.nd d1;have hr:=hu.lt;have KV:=k2 _ _ d1;have cp:X8 (yI b kt kh km) 0=some b:=rfl;have c1:Bn (yI b kt kh km) 1=some kt:=rfl;have c2:Bn (yI b kt kh km) 2=some kh:=rfl;rw[dR,iC];simp only[NT.JK,h.box,I7,c2,c1,Lm,zjq,F8,h.mh,h.mt,beq_self_eq_true];have h1:(DV.int .i64 1)=iN 1:=rfl;have h2:(DV.int .i64 2)=iN 2:=rfl;have h0:(DV.int .i64 0)=iN 0:=rfl;rcases T r with g | ⟨t,ht,g⟩
   ·rw[g];simp only[yqq,h0,yV,I7,F3,ztq,T9,z0q,G9,hK r];have key:∀(q j x:Nat)(sg:List E5)(eh:List (DV×DV)),j+q=ts.length->SB b i S p kt kh km sg et eh em->Apart b i p kt kh km sg.length->Qt S0 (K.map (·.1)) eh->(x=1\/x=2)->(decide (x=1)||NT.VL (K.map (·.1)) (ts.drop j))=(NT.mk r k ts).has (K.map (·.1))->
     ∃es,B_ C9 p (iN r) (iN x) (.list 1 (d.D5.map iN)) (iN d.D5.length) (iN j) sg=some ([.bool ((NT.mk r k ts).has (K.map (·.1)))],sg.set kh (.map false es))/\Qt S0 (K.map (·.1)) es:=by
     intro q;induction q with
     |zero=>
       intro j x sg eh hj h A T hx he;rw[z8q (by omega),NT.VL,yrq]at he;rw[PZ];simp only[Ac,I7,F3,I6];rw[A7 (by omega)];have hxx:x=if (NT.mk r k ts).has (K.map (·.1))then 1 else 2:=by rw[<- he];rcases hx with rfl | rfl<;>rfl
       refine⟨Bb eh (iN r) (iN x),?_,by rw[hxx];exact T.set yf⟩;simp only[h.box,I7,c2,Lm,zjq,F8,h.mh,beq_self_eq_true,h1,PT,he]
     |succ q ihq=>
       intro j x sg eh hj h A T hx he;have FT:j<ts.length:=by omega
       have O9:j<d.D5.length:=by omega
       have hj3:j<d'.D5.length:=by omega
       rw[z4q FT,NT.VL]at he;have hk:=d5 j O9 FT;obtain⟨es,x1,x2⟩:=ih ts[j] (z3q FT) sg eh (d5' j hj3 FT).self h A hK T;have Pd:=h.B1v A es;have A2:=A.len (m:=(sg.set kh (.map false es)).length) (by simp);obtain⟨ms,v,a⟩:=h.at_;have rt:=RP a hk.root;rw[PZ];simp only[Ac,I7,F3,I6,A9 O9,IL O9,Ba,F8,h.box,cp,rt,z1q,x1,addN (show j<2 ^ 62 by omega)]
       by_cases hb:ts[j].has (K.map (·.1))=true
       ·rw[A9 hb];simp only[h1];obtain⟨es2,y1,y2⟩:=ihq (j+1) 1 _ es (by omega) Pd A2 x2 (.inl rfl) (by rw[<- he,hb];simp);rw[zNq]at y1;exact⟨es2,y1,y2⟩
       ·rw[A7 hb];obtain⟨es2,y1,y2⟩:=ihq (j+1) x _ es (by omega) Pd A2 x2 hx (by rw[<- he];simp[hb]);rw[zNq]at y1;exact⟨es2,y1,y2⟩
    have eight:∀x,GG C9 p (iN r) (iN x) sg=B_ C9 p (iN r) (iN x) (.list 1 (d.D5.map iN)) (iN d.D5.length) (iN 0) sg:=by
     intro x;rw[bA];simp only[h.box,I7,cp,a.box,CU,Jn hr,a.P9,e,beq_self_eq_true,F8,nd3,TQ]
     try rfl
    cases hf:E_ K r with
    |none=>have:=LG.1 hf;simp only[ybq,zzq,z0q,G9,h2,eight];exact key ts.length 0 2 sg eh (by omega) h A T (.inr rfl) (by rw[zcq,NT.has];simp[this])
    |some t=>have:r∈K.map (·.1):=zYq (f:=(·.1)) (QO hf);simp only[y1q,zAq,F6,h1,eight];exact key ts.length 0 1 sg eh (by omega) h A T (.inl rfl) (by rw[zcq,NT.has];simp[this])
   ·rw[g];have:=ht.uniq yf;subst this;have hp:0<(if (NT.mk r k ts).has (K.map (·.1))=true then 1 else 2):=by split<;>omega
    simp only[zVq,h0,h1,yV,PT,I7,F3,hp,J9,F6];refine⟨eh,?_,T⟩;rw[Nt h.mh];congr 3;cases(NT.mk r k ts).has (K.map (·.1))<;>rfl
def B92(b i p kt kh km:Nat)(S0:E9)(K:List (Nat×Nat))(et:List (DV×DV))(sg:List E5)(x:Option (List DV×List E5))(ds:List DV)(q:E9×List (Nat×Nat)):Prop :=∃sg' eh em,x=some (ds,sg')/\SB b i q.1 p kt kh km sg' et eh em/\Il em q.2/\Qt S0 (K.map (·.1)) eh/\sg.length<=sg'.length/\∀j,j<sg.length->j≠b->j≠i->j≠kh->j≠km->sg'[j]?=sg[j]?
def B7h{n0:Nat}(ok0:S0.Ok)(hK:∀e∈K,e.2<S0.l.length)(hn:S0.need K n0<=S0.mx-S0.cnt){N:List Nat}(hN:N=(S0.roots n0).filter λr=>S0.F9 r != 6&&(S0.K5 r).has (K.map (·.1)))(het:Il et K)(t:NT):
 ∀n,U9 S0 n t->(∀x∈t.all,x∈S0.roots n0)->∀(S:E9)(M:List (Nat×Nat))(sg:List E5)(eh em:List (DV×DV)),CI S0 N S M->SB b i S p kt kh km sg et eh em->Apart b i p kt kh km sg.length->Il em M->Qt S0 (K.map (·.1)) eh->
 B92 b i p kt kh km S0 K et sg (C9.r Iw [(.undef,.ptr p 0),(iN n,.val)] sg) [iN (t.copy K (S,M)).1] (t.copy K (S,M)).2:=by
 induction t using NT.ind with
 |h r k ts ih=>
   intro n yf hx S M sg eh em C h A hM T;have hS:=C.U0.like;have hu:=yf.like hS;obtain⟨d,d1,d2,d3,d4,d5⟩:=hu.nd;obtain⟨d',d1',-,-,d4',d5'⟩:=yf.nd;simp only[NT.JK,NT.VV,NT.U7]at d1 d3 d4 d5 d1' d4' d5';obtain⟨ms,v,a⟩:=h.at_;obtain⟨mk,-,-,e⟩:=a.nd d1;have hr:=hu.Gs;have Sg:=hu.root;simp only[NT.JK]at hr Sg;have KV:=C.ok.k2 d1;have cp:X8 (yI b kt kh km) 0=some b:=rfl;have c1:Bn (yI b kt kh km) 1=some kt:=rfl;have c3:Bn (yI b kt kh km) 3=some km:=rfl;have start:=(iR p (iN n) sg).trans (jy _ _ _ _);simp only[h.box,I7,cp,RP a Sg,z1q,c1,Lm,zjq,F8,h.mt,beq_self_eq_true,het r,F3]at start;rw[NT.copy];cases hf:E_ K r with
   |some t=>simp only[hf,y1q,zAq,F6,zVq]at start;exact⟨sg,eh,em,start,h,hM,T,zgq _,λ_ _ _ _ _ _=>rfl⟩
   |none=>
     obtain⟨es,x1,x2⟩:=A7R hS (λn d h=>C.ok.k2 h) (.mk r k ts) sg eh yf.self h A het T;have h2:=h.B1v A es;have A2:=A.len (m:=(sg.set kh (.map false es)).length) (by simp);obtain⟨ms2,v2,a2⟩:=h2.at_;obtain⟨mk2,-,-,e2⟩:=a2.nd d1;rw[NT.JK]at x1;simp only[hf,ybq,zzq,z0q,G9,x1,I7,z1q,U2,F3,h2.box,c3,h2.mm,beq_self_eq_true,F8,Lm,zjq,hM r]at start;simp only;have fr:∀j,j<sg.length->j≠b->j≠i->j≠kh->j≠km->(sg.set kh (.map false es))[j]?=sg[j]?:=λj _ _ _ h3 _=>z2q (Ne.symm h3);by_cases hh:(NT.mk r k ts).has (K.map (·.1))=false
     ·rw[A9 hh];rw[hh]at start;simp only[z9q,F6]at start;exact⟨_,es,em,start,h2,hM,x2,by simp,fr⟩
     ·rw[A7 hh];have hh':(NT.mk r k ts).has (K.map (·.1))=true:=by simpa using hh
      rw[hh']at start;simp only[z5q,z0q,G9]at start;cases hm:E_ M r with
      |some m=>simp only[hm,y1q,zAq,F6,zVq]at start;exact⟨_,es,em,start,h2,hM,x2,by simp,fr⟩
      |none=>
        simp only[hm,ybq,zzq,z0q,G9,cp,I7,a2.box,CU,Jn hr,a2.P9,e2,beq_self_eq_true,F8,nd3,TQ]at start;have key:∀(q j:Nat)(o:List Nat)(S:E9)(M:List (Nat×Nat))(sg:List E5)(eh em:List (DV×DV)),j+q=ts.length->o.length<=j->CI S0 N S M->SB b i S p kt kh km sg et eh em->Apart b i p kt kh km sg.length->Il em M->Qt S0 (K.map (·.1)) eh->
         CI S0 N (NT.V3 K (ts.drop j) (S,M)).2.1 (NT.V3 K (ts.drop j) (S,M)).2.2/\(∀x∈(NT.V3 K (ts.drop j) (S,M)).2.2.map (·.1),x∈M.map (·.1)\/x∈NT.Uh ts) /\
         ∃sg' eh' em',Bz C9 p (iN r) (.list 1 (o.map iN)) (.list 1 (d.D5.map iN)) (iN d.D5.length) (iN j) sg=Bz C9 p (iN r) (.list 1 ((o++(NT.V3 K (ts.drop j) (S,M)).1).map iN)) (.list 1 (d.D5.map iN)) (iN d.D5.length) (iN d.D5.length) sg'/\SB b i (NT.V3 K (ts.drop j) (S,M)).2.1 p kt kh km sg' et eh' em'/\Il em' (NT.V3 K (ts.drop j) (S,M)).2.2/\Qt S0 (K.map (·.1)) eh'/\sg.length<=sg'.length/\∀j,j<sg.length->j≠b->j≠i->j≠kh->j≠km->sg'[j]?=sg[j]?:=by
         intro q;induction q with
         |zero=>intro j o S M sg eh em hj ho C h A hM T;rw[z8q (by omega),NT.V3,show j=d.D5.length by omega];exact⟨C,λx hx=>.inl hx,sg,eh,em,by simp,h,hM,T,zgq _,λ_ _ _ _ _ _=>rfl⟩
         |succ q ihq=>
           intro j o S M sg eh em hj ho C h A hM T;have FT:j<ts.length:=by omega
           have O9:j<d.D5.length:=by omega
           have hj3:j<d'.D5.length:=by omega
           have mem:=z3q FT;have dk:d.D5=d'.D5:=by obtain⟨d'',g1,-,-,g2⟩:=hS _ _ d1';rw[d1]at g1;cases g1;exact g2
           have Du:U9 S0 d.D5[j] ts[j]:=by have:=d5' j hj3 FT;simpa only[dk]using this
           have FH:∀x∈ts[j].all,x∈S0.roots n0:=λx FH=>hx x (NT.CF.2 (.inr ⟨_,mem,FH⟩));obtain⟨K4,eh1,em1,y1,y2,y3,y4,y5,y6⟩:=ih ts[j] mem d.D5[j] Du FH S M sg eh em C h A hM T;obtain⟨C1,C2,C3⟩:=jN ok0 hK hn hN ts[j] d.D5[j] Du FH S M C;obtain⟨z0,zz,sg2,eh2,em2,z1,z2,z3,z4,z5,z6⟩:=ihq (j+1) (o++[(ts[j].copy K (S,M)).1]) _ _ K4 eh1 em1 (by omega) (by simp;omega) C1 y2 (A.len y5) y3 y4;rw[z4q FT,NT.V3];refine⟨z0,λx hx=>?_,sg2,eh2,em2,?_,z2,z3,z4,zOq y5 z5,λj' h1 h2 h3 h4 h5=>(z6 j' (by omega) h2 h3 h4 h5).trans (y6 j' h1 h2 h3 h4 h5)⟩
           ·rcases zz x hx with g | g
            ·rcases C3 x g with g | g
             ·exact .inl g
             ·exact .inr (Qa.2 ⟨_,mem,g⟩)
            ·exact .inr g
           ·rw[PY];simp only[Ac,I7,F3,I6,A9 O9,IL O9,Ba,F8,y1,z1q,P5,zP (show o.length<2 ^ 31 by omega),addN (show j<2 ^ 62 by omega)]
            rw[z1];simp
        obtain⟨C1,C2,K4,eh1,em1,z1,z2,z3,z4,z5,z6⟩:=key ts.length 0 [] S M _ es em (by omega) (by simp) C h2 A2 hM x2;rw[zcq]at C1 C2 z1 z2 z3;have A3:=A2.len z5;obtain⟨ms3,v3,a3⟩:=z2.at_;obtain⟨d3',g1,g2,g3,g4⟩:=C1.U0.like _ _ d1';obtain⟨mk3,-,-,e3⟩:=a3.nd g1;have hr3:=(z7q.1 g1).1;have pl:=C1.ok.len;have pc:=C1.ok.cm;have pm:=C1.ok.mm;obtain⟨sg2,f1,f2,f3⟩:=A1X a3.at (by omega) (by omega) k 0 (NT.V3 K ts (S,M)).1;have z2':=z2.kp A3 f3 f2;have A4:=A3.len f3.le;have rM:r∉(NT.V3 K ts (S,M)).2.2.map (·.1):=by
         intro WR;rcases C2 r WR with g | g
         ·exact absurd g (LG.1 hm)
         ·obtain⟨u,u1,u2⟩:=Qa.1 g;exact yf.fresh u1 u2
        have bV:d3'.E8=k:=by rw[g2];obtain⟨d'',g1',g2',-,-⟩:=hS _ _ d1';rw[d1]at g1';cases g1';rw[<- g2'];exact d3
        refine⟨_,eh1,_,start.trans ?_,z2'.C0D A4 _,z3.set rM,z4,?_,?_⟩
        ·have z1':Bz C9 p (iN r) (.list 1 []) (.list 1 (d.D5.map iN)) (iN d.D5.length) (iI 0) (sg.set kh (.map false es))=_:=z1;rw[z1',PY];have f1':C9.r BK [(.undef,.ptr b 0),(.agg [iN k,iI 0,iI 0,.list 1 ((NT.V3 K ts (S,M)).1.map iN),iI 0],.val)] K4=_:=f1;simp only[Ac,ztq,T9,I7,F3,z0q,G9,z2.box,cp,a3.box,CU,Jn hr3,a3.P9,e3,beq_self_eq_true,F8,nd0,bV,P5,zsq,f1',z1q,z2'.box,c3,Lm,zjq,z2'.mm]
        ·have:=f3.le;simp only[zLq]at z5 ⊢;omega
        ·intro j h1 h2 h3 h4 h5;have l1:j<K4.length:=by simp only[zLq]at z5;omega
         rw[z2q (Ne.symm h5),f3.eq j l1 h2 h3,z6 j (by simpa using h1) h2 h3 h4 h5];exact fr j h1 h2 h3 h4 h5
end
section
variable {b i v:Nat}{S:E9}{ms:List Nat}{sg:List E5}{p kt kh km:Nat}{et eh em:List (DV×DV)}
def SB.B8X(h:SB b i S p kt kh km sg et eh em)(A:Apart b i p kt kh km sg.length)(es:List (DV×DV)):SB b i S p kt kh km (sg.set kt (.map false es)) es eh em:=by obtain⟨ms,v,a⟩:=h.at_;exact⟨⟨ms,v,a.gB A.t.1 A.t.2.1 _⟩,by rw[Cv A.t.2.2];exact h.box,EX A.l.1 es,by rw[Lr A.a.1];exact h.mh,by rw[Lr A.a.2.1];exact h.mm⟩
def B2C(ok:S.Ok)(n:Nat)(from_ to:List Nat)(hf:∀f∈from_,f<S.l.length)(ht:∀t∈to,t<S.l.length)(hl:from_.length=to.length)(hz:to.length<2 ^ 31):∀(q j:Nat)(K:List (Nat×Nat))(sg:List E5)(et eh em:List (DV×DV)),j+q=from_.length->SB b i S p kt kh km sg et eh em->Apart b i p kt kh km sg.length->Il et K->(∀e∈K,e.2<S.l.length)->
 ∃et',(match S.keys (from_.drop j) (to.drop j) K with
   |none=>DF C9 b (iN n) (.list 1 (to.map iN)) p (.list 1 (from_.map iN)) (iN from_.length) (iN j) sg=some ([iN 0,iN 1],sg.set kt (.map false et'))
   |some K'=>DF C9 b (iN n) (.list 1 (to.map iN)) p (.list 1 (from_.map iN)) (iN from_.length) (iN j) sg=DF C9 b (iN n) (.list 1 (to.map iN)) p (.list 1 (from_.map iN)) (iN from_.length) (iN from_.length) (sg.set kt (.map false et'))/\Il et' K'/\∀e∈K',e.2<S.l.length):=by
 intro q;induction q with
 |zero=>intro j K sg et eh em hj h A T hk;rw[z8q (by omega),E9.keys,show j=from_.length by omega];exact⟨et,by rw[Nt h.mt],T,hk⟩
 |succ q ih=>
   intro j K sg et eh em hj h A T hk;have O9:j<from_.length:=by omega
   have FT:j<to.length:=by omega
   have h1:=hf _ (z3q O9);have h2:=ht _ (z3q FT);obtain⟨ms,v,a⟩:=id h.at_;obtain⟨d,d1,-,-,-,d5,-⟩:=ok.nd h1;obtain⟨mk,-,-,e⟩:=a.nd d1;have cp:Bn (yI b kt kh km) 1=some kt:=rfl;have start:=SN C9 b (iN n) (.list 1 (to.map iN)) p (.list 1 (from_.map iN)) (iN from_.length) (iN j) sg;simp only[Ac,I7,F3,O9,J9,F6,IL O9,Ba,F8,OC h.at_ ok h1,z1q,uw,Q3,z0q,G9,IL FT,YY h.at_,h2,U2,z5q,a.box,CU,Jn (ok.Gs h1),a.P9,e,beq_self_eq_true,nd0,show(DV.int .i64 6)=iN 6 from rfl,YS,d5,h.box,cp,Lm,zjq,h.mt,T (S.root from_[j]),addN (show j<2 ^ 62 by omega)]at start;rw[z4q O9,z4q FT,E9.keys];by_cases h6:S.F9 (S.root from_[j])=6
   ·cases kW:E_ K (S.root from_[j])with
    |none=>
      have hn:=LG.1 kW;rw[A9 ⟨h6,hn⟩];simp only[h6,J9,z5q,z0q,G9,kW,ybq,zzq]at start;have FU:∀e∈K++[(S.root from_[j],to[j])],e.2<S.l.length:=by
       intro e he;rcases znq.1 he with g | g
       ·exact hk e g
       ·rw[ziq.1 g];exact h2
      obtain⟨et',x⟩:=ih (j+1) (K++[(S.root from_[j],to[j])]) _ _ eh em (by omega) (h.B8X A (Bb et (iN (S.root from_[j])) (iN to[j]))) (A.len (by simp)) (T.set hn) FU;refine⟨et',?_⟩;simp only[List.tail_cons,List.headD_cons];rw[start];rw[zNq]at x;exact x
    |some t=>have hn:S.root from_[j]∈K.map (·.1):=zYq (f:=(·.1)) (QO kW);rw[A7 (λg=>g.2 hn)];simp only[h6,J9,z5q,z0q,G9,kW,y1q,zAq,F6]at start;exact⟨et,by rw[Nt h.mt];exact start⟩
   ·rw[A7 (λg=>h6 g.1)];simp only[h6,T9,z9q,F6]at start;exact⟨et,by rw[Nt h.mt];exact start⟩
def B2P(ok:S.Ok)(n:Nat)(hn:n<S.l.length){K:List (Nat×Nat)}(T:Il et K):∀(q j c:Nat)(sg:List E5)(eh:List (DV×DV)),j+q=(S.roots n).length->c<=j->SB b i S p kt kh km sg et eh em->Apart b i p kt kh km sg.length->Qt S (K.map (·.1)) eh->
 ∃eh',Av C9 b (iN n) p (iN c) (.list 1 ((S.roots n).map iN)) (iN (S.roots n).length) (iN j) sg=Av C9 b (iN n) p (iN (c+(((S.roots n).drop j).filter λr=>S.F9 r != 6&&(S.K5 r).has (K.map (·.1))).length)) (.list 1 ((S.roots n).map iN)) (iN (S.roots n).length) (iN (S.roots n).length) (sg.set kh (.map false eh'))/\Qt S (K.map (·.1)) eh':=by
 intro q;induction q with
 |zero=>intro j c sg eh hj hc h A H;rw[z8q (by omega),show j=(S.roots n).length by omega];exact⟨eh,by rw[Nt h.mh];rfl,H⟩
 |succ q ih=>
   intro j c sg eh hj hc h A H;have O9:j<(S.roots n).length:=by omega
   have hl:=ok.A2Y hn;have hx:=ok.Lp hn (z3q O9);obtain⟨u,hu,hur,-⟩:=U9.sub (S.K5 n) n (ok.K5 hn) ((ok.DW hn).1 (z3q O9));obtain⟨ms,v,a⟩:=id h.at_;obtain⟨d,hd⟩:∃d,S.l[(S.roots n)[j]]?=some d:=⟨_,zdq hx⟩;obtain⟨m,-,-,e⟩:=a.nd hd;have start:=Re C9 b (iN n) p (iN c) (.list 1 ((S.roots n).map iN)) (iN (S.roots n).length) (iN j) sg;simp only[Ac,I7,F3,O9,J9,F6,IL O9,Ba,F8,a.box,CU,Jn hx,a.P9,e,beq_self_eq_true,nd0,show(DV.int .i64 6)=iN 6 from rfl,YS,Q3,addN (show j<2 ^ 62 by omega)]at start;rw[z4q O9,y7q,DU hd];by_cases h6:d.E8=6
   ·obtain⟨eh',y1,y2⟩:=ih (j+1) c sg eh (by omega) (by omega) h A H;simp only[h6,J9,z5q,z0q,G9]at start;refine⟨eh',?_,y2⟩;rw[start,y1];simp[h6]
   ·obtain⟨es,x1,x2⟩:=A7R (Y6.refl S) (λn d h=>ok.k2 h) u sg eh hu.self h A T H;rw[hur]at x1;have hs:S.K5 (S.roots n)[j]=u:=hu.eq;have h2:=h.B1v A es;have A2:=A.len (m:=(sg.set kh (.map false es)).length) (by simp);simp only[h6,T9,z9q,F6,x1,I7,z1q,F3,addN (show c<2 ^ 62 by omega)]at start;rw[hs];by_cases hh:u.has (K.map (·.1))=true
    ·obtain⟨eh',y1,y2⟩:=ih (j+1) (c+1) _ es (by omega) (by omega) h2 A2 x2;rw[zNq]at y1;rw[A9 hh,y1]at start;refine⟨eh',?_,y2⟩;rw[start];simp[h6,hh,Nat.add_assoc,Nat.add_comm 1]
    ·obtain⟨eh',y1,y2⟩:=ih (j+1) c _ es (by omega) (by omega) h2 A2 x2;rw[zNq]at y1;rw[A7 hh,y1]at start;refine⟨eh',?_,y2⟩;rw[start];simp[h6,hh]
theorem A3Q(ok:S.Ok){n:Nat}(hn:n<S.l.length)(K:List (Nat×Nat)):S.tick.need K n=S.need K n:=by
 have hr:S.tick.roots n=S.roots n:=by unfold E9.roots;rw[(ok.K5 hn).tick.eq]
 unfold E9.need;rw[hr];congr 1;refine List.filter_congr λr h=>?_;have:=ok.Lp hn h;rw[(ok.K5 this).tick.eq];rfl
def B68(h:Y7 b i S sg)(ok:S.Ok)(hr:S.J8+1<2 ^ 62){n:Nat}(hn:n<S.l.length){from_ to:List Nat}(hf:∀f∈from_,f<S.l.length)(ht:∀t∈to,t<S.l.length)(hl:from_.length=to.length)(hz:to.length<2 ^ 31):
 Xu b i sg (C9.r Pq [(.undef,.ptr b 0),(iN n,.val),(.list 1 (from_.map iN),.val),(.list 1 (to.map iN),.val)] sg) [iN (S.copy n from_ to).2.1,iN (S.copy n from_ to).2.2] (S.copy n from_ to).1:=by
 obtain⟨ms,v,a⟩:=id h;have la:=a.lb;have li:=a.lv
 let k:=sg.length
 let K4:=sg++[.map false [],.map false [],.map false [],.box (yI b k (k+1) (k+2))]
 have C1:SB b i S (k+3) k (k+1) (k+2) K4 [] [] []:=by refine⟨h.app _,?_,?_,?_,?_⟩<;>simp[K4,H5,Q5,k,zoq]
 have A1:Apart b i (k+3) k (k+1) (k+2) K4.length:=by
  have e:K4.length=k+4:=by simp[K4,k]
  rw[e];constructor<;>omega
 have s1:(((sg++[E5.map false []])++[E5.map false []])++[E5.map false []])++[E5.box [(.undef,(.ptr b 0)),(.undef,(F4.map sg.length)),(.undef,(F4.map (sg++[E5.map false []]).length)),(.undef,(F4.map ((sg++[E5.map false []])++[E5.map false []]).length))]]=K4:=by simp[K4,yI,k]
 have s2:(((sg++[E5.map false []])++[E5.map false []])++[E5.map false []]).length=k+3:=by simp[k]
 have start:=(nR b (iN n) (.list 1 (from_.map iN)) (.list 1 (to.map iN)) sg).trans (rP _ _ _ _ _ _);simp only[YY h,hn,J9,I7,z1q,U2,z5q,Q3,z0q,G9,TQ,YS,hl,F3,s1,s2]at start;have fr:∀(sg':List E5),K4.length<=sg'.length->(∀j,j<k->j≠b->j≠i->sg'[j]?=K4[j]?)->Kp b i sg sg':=λsg' h1 h2=>⟨by simp only[K4,zlq]at h1;omega,λj hj g1 g2=>(h2 j hj g1 g2).trans (zaq hj)⟩
 obtain⟨et,x⟩:=B2C (p:=k+3) (kt:=k) (kh:=k+1) (km:=k+2) ok n from_ to hf ht hl hz from_.length 0 [] K4 [] [] [] (by omega) C1 A1 Il.nil (by simp);rw[hl]at x;rw[zcq,zcq]at x;have C2:=C1.B8X A1 et;have A2:=A1.len (m:=(K4.set k (.map false et)).length) (by simp);unfold E9.copy;cases hk:S.keys from_ to []with
 |none=>rw[hk]at x;simp only at x ⊢;refine⟨_,start.trans x,C2.at_,fr _ (by simp) λj hj _ _=>z2q (by omega)⟩
 |some K=>
   rw[hk]at x;obtain⟨x1,x2,x3⟩:=x;obtain⟨sg2,r1,r2,r3⟩:=pY C2.at_ ok hr (ok.K5 hn);have C3:=C2.kp A2 r3 r2;have A3:=A2.len r3.le;have rt:S.tick.roots n=S.roots n:=by unfold E9.roots;rw[(ok.K5 hn).tick.eq]
   obtain⟨eh,y1,y2⟩:=B2P (S:=S.tick) (p:=k+3) (kt:=k) (kh:=k+1) (km:=k+2) ok.tick n hn x2 (S.roots n).length 0 0 sg2 [] (by rw[rt];omega) (by omega) C3 A3 (λr=>.inl rfl);rw[zcq,zPq]at y1;have B9x:((S.tick.roots n).filter λr=>S.tick.F9 r != 6&&(S.tick.K5 r).has (K.map (·.1))).length=S.need K n:=A3Q ok hn K;rw[B9x,rt]at y1;have C4:=C3.B1v A3 eh;have A4:=A3.len (m:=(sg2.set (k+1) (.map false eh)).length) (by simp);have nl:S.need K n<=(S.roots n).length:=zUq ..;obtain⟨cs,c0,c1,c2⟩:=C4.at_.cnt;have hc:=ok.cm;have hm:=ok.mm;have c1':U6 cs 1=some (iN S.mx):=c1;have c2':U6 cs 2=some (iN S.cnt):=c2;have e5:=SN C9 b (iN n) (.list 1 (to.map iN)) (k+3) (.list 1 (from_.map iN)) (iN to.length) (iN to.length) (K4.set k (.map false et));have e17:=Re C9 b (iN n) (k+3) (iN (S.need K n)) (.list 1 ((S.roots n).map iN)) (iN (S.roots n).length) (iN (S.roots n).length) (sg2.set (k+1) (.map false eh));simp only[Ac,ztq,T9,I7,F3,z0q,G9,r1,z1q,TQ]at e5;simp only[Ac,ztq,T9,I7,F3,z0q,G9,c0,c1',c2',B1H hc (show S.mx<2 ^ 62 by omega),yV,I6]at e17;have y1':Av C9 b (iN n) (k+3) (iI 0) (.list 1 ((S.roots n).map iN)) (iN (S.roots n).length) (iI 0) sg2=_:=y1;have st2:=(start.trans x1).trans (e5.trans (y1'.trans e17));have f2:∀j,j<k->j≠b->j≠i->(sg2.set (k+1) (.map false eh))[j]?=K4[j]?:=λj hj g1 g2=>by rw[z2q (by omega),r3.eq j (by simp only[zLq];have:=A1.l.1;omega) g1 g2,z2q (by omega)]
   have l2:K4.length<=(sg2.set (k+1) (.map false eh)).length:=by have:=r3.le;simp only[zLq]at this ⊢;exact this
   simp only
   by_cases g:S.need K n>S.mx-S.cnt
   ·rw[A9 g]at st2 ⊢;exact⟨_,st2,C4.at_,fr _ l2 f2⟩
   ·rw[A7 g]at st2 ⊢;have CI0:CI S.tick ((S.tick.roots n).filter λr=>S.tick.F9 r != 6&&(S.tick.K5 r).has (K.map (·.1))) S.tick []:=⟨ok.tick,Da.refl _,rfl,rfl,by simp,ypq,by simp⟩;obtain⟨dD,eh3,em3,z1,z2,z3,z4,z5,z6⟩:=B7h (S0:=S.tick) (n0:=n) ok.tick x3 (by rw[A3Q ok hn];exact Nat.not_lt.1 g) rfl x2 (S.K5 n) n (ok.K5 hn).tick (λx hx=>by rw[rt];exact(ok.DW hn).2 hx) S.tick [] _ eh [] CI0 C4 A4 Il.nil y2;refine⟨dD,st2.trans ?_,z2.at_,fr _ (zOq l2 z5) λj hj g1 g2=>?_⟩
    ·rw[z1];rfl
    ·have:=A1.l.1;rw[z6 j (by omega) g1 g2 (by omega) (by omega)];exact f2 j hj g1 g2
end
section
variable {b i:Nat}{S:E9}{sg:List E5}
theorem Nc(a c:DV):Q0 0 (.J6 [a,c])=some a:=rfl
theorem Nf(a c:DV):Q0 1 (.J6 [a,c])=some c:=rfl
def A1W{sg sg':List E5}{k n:Nat}{x:Nat×List DV}(h:V5 sg k n=some x)(e:sg'[k]?=sg[k]?):V5 sg' k n=some x:=by rw[pQ e];exact h
def frs(l:List Nat):List DV:=[iN (l.getD 0 0),iN (l.getD 1 0)]
structure Kb(b i n:Nat)(sg sg':List E5):Prop where
 le:sg.length<=sg'.length
 eq:∀j,j<n->j≠b->j≠i->sg'[j]?=sg[j]?
def Kb.refl{b i n:Nat}(sg:List E5):Kb b i n sg sg:=⟨zgq _,λ_ _ _ _=>rfl⟩
def Kb.trans{b i n:Nat}{x y z:List E5}(h:Kb b i n x y)(k:Kb b i n y z):Kb b i n x z:=⟨zOq h.le k.le,λj hj h1 h2=>(k.eq j hj h1 h2).trans (h.eq j hj h1 h2)⟩
def Kp.kb{b i n:Nat}{x y:List E5}(h:Kp b i x y)(hn:n<=x.length):Kb b i n x y:=⟨h.le,λj hj h1 h2=>h.eq j (z6q hj hn) h1 h2⟩
def Kb.set{b i n k:Nat}(x:List E5)(o:E5)(h:n<=k):Kb b i n x (x.set k o):=⟨by simp,λj hj _ _=>z2q (by omega)⟩
def Kb.kp{b i:Nat}{x y:List E5}(h:Kb b i x.length x y):Kp b i x y:=⟨h.le,h.eq⟩
def Kb.app{b i n:Nat}(x L:List E5)(h:n<=x.length):Kb b i n x (x++L):=(Kp.app x L).kb h
def B6t{out:List Nat}{x j:Nat}(h:out.length=j)(hj:j<2):Kj 1 0 (iN 0) [(iN x,.val)]=some (iN x)/\(frs out)[j]?=some (iN 0)/\(frs out).set j (iN x)=frs (out++[x]):=by
 subst h
 match out,hj with
 |[],_=>exact⟨rfl,rfl,rfl⟩
 |[a],_=>exact⟨rfl,rfl,rfl⟩
def A8d{v w A8 kv n0 k:Nat}(B8a:A8<2 ^ 31)(hk:k<=2)(hn:n0<=kv)(hb:kv≠b)(hi:kv≠i):∀(q j:Nat)(out:List Nat)(S:E9)(sg:List E5),j+q=k->out.length=j->Y7 b i S sg->S.Ok->v<S.l.length->S.F9 (S.root v)=6->S.U8 (S.root v)=A8->V5 sg kv 1=some (1,frs out)->
 ∃sg',Y7 b i (E9.fresh A8 q S).1 sg'/\Kb b i n0 sg sg' /\(((E9.fresh A8 q S).2.2≠0->Dy C9 b (iN v) (iN w) kv 1 2 (iN k) (iN j) sg=some ([iI (-1),iN (E9.fresh A8 q S).2.2],sg')) /\((E9.fresh A8 q S).2.2=0->Dy C9 b (iN v) (iN w) kv 1 2 (iN k) (iN j) sg=Dy C9 b (iN v) (iN w) kv 1 2 (iN k) (iN k) sg'/\V5 sg' kv 1=some (1,frs (out++(E9.fresh A8 q S).2.1)))):=by
 intro q;induction q with
 |zero=>intro j out S sg hj ho h ok hv h6 hl A2I;exact⟨sg,h,Kb.refl _,λg=>absurd rfl g,λ_=>⟨by rw[show j=k by omega],by simpa[E9.fresh]using A2I⟩⟩
 |succ q ih=>
   intro j out S sg hj ho h ok hv h6 hl A2I;have O9:j<k:=by omega
   have lk:=dF A2I;obtain⟨K4,e1,a1,k1⟩:=A7P h ok A8;obtain⟨o1,o2,o3,o4,-,-⟩:=Lg ok B8a;have start:=YE C9 b (iN v) (iN w) kv 1 2 (iN k) (iN j) sg;have B5I:=A1W A2I (k1.eq kv lk hb hi);obtain⟨s1,s2,s3⟩:=B6t (x:=(S.var A8).2.1) ho (by omega);simp only[Ac,I7,F3,O9,J9,F6,A37 h ok hv h6,hl,z1q,e1,Nc,Nf,show(DV.int .i64 0)=iN 0 from rfl,YS]at start;rw[E9.fresh];by_cases he:(S.var A8).2.2=0
   ·rw[A9 he];simp only[he,J9,z5q,z0q,G9,Jn (show j<2 by omega),I7,B5I,s2,beq_self_eq_true,F8,P5,s1,show(DV.int .i64 0)=iN 0 from rfl,addN (show j<2 ^ 62 by omega),s3]at start;have lk1:=dF B5I;obtain⟨ms,vv,am⟩:=a1;have a2:=am.gB hb hi (.P9 1 1 (frs (out++[(S.var A8).2.1])));have rv:=o2.root ok hv;have ka:(S.var A8).1.F9 (S.root v)=S.F9 (S.root v):=(Y6.at_ o2.like (ok.Gs hv)).1;have la:(S.var A8).1.U8 (S.root v)=S.U8 (S.root v):=by
     unfold E9.var;split
     ·rfl
     ·simp only[E9.U8,E9.add]
      rw[zaq (ok.Gs hv)]
    obtain⟨sg2,b1,b2,b3,b4⟩:=ih (j+1) (out++[(S.var A8).2.1]) _ _ (by omega) (by simp[ho]) a2.at o1 (z6q hv o2.le) (by rw[rv,ka,h6]) (by rw[rv,la,hl]) (Zt lk1 ..);refine⟨sg2,b1,((k1.kb (by omega)).trans (Kb.set _ _ hn)).trans b2,λg=>start.trans (b3 g),λg=>?_⟩;obtain⟨c1,c2⟩:=b4 g;exact⟨start.trans c1,by rw[c2];simp⟩
   ·rw[A7 he];simp only[he,T9,z9q,F6]at start;exact⟨K4,a1,k1.kb (by omega),λ_=>start,λg=>absurd g he⟩
def Y7.lt(h:Y7 b i S sg):b<sg.length/\i<sg.length:=by obtain⟨ms,v,h⟩:=h;exact⟨h.lb,h.lv⟩
def A39(h:Y7 b i S sg)(ok:S.Ok)(hr:S.J8+5<2 ^ 62){v w:Nat}(hv:v<S.l.length)(hw:w<S.l.length)(rv:S.root v=v)(rw_:S.root w=w)(hne:v≠w)(fC:w≠4)(h6:S.F9 v=6):
 Xu b i sg (C9.r Qn [(.undef,.ptr b 0),(iN v,.val),(iN w,.val)] sg) [lnk (S.become v w).2.1,iN (S.become v w).2.2] (S.become v w).1:=by
 have start:=(zk b (iN v) (iN w) sg).trans (A07 _ _ _ _ _);have h6':S.F9 (S.root v)=6:=by rw[rv];exact h6
 have k6:D7 .eql (iN (S.F9 w)) (iI 6)=some (.bool (decide (S.F9 w=6))):=PT _ 6;simp only[TS h ok hw,rw_,I7,z1q,k6,Q3,I6]at start;unfold E9.become;split
 ·rename_i g;obtain⟨K4,e1,a1,k1⟩:=A22 h ok (by omega) hv hw;rw[A9 g,e1]at start;exact⟨K4,start,a1,k1⟩
 ·rename_i g;obtain⟨K4,e1,a1,k1⟩:=B3u h ok (by omega) hw;rw[A7 g,e1]at start;simp only[I7,z1q,F3,I6]at start;split
  ·rename_i g4;obtain⟨sg2,e2,a2,k2⟩:=A22 a1 ok.tick (show S.J8+1+2<2 ^ 62 by omega) (show v<S.tick.l.length from hv) (show w<S.tick.l.length from hw);rw[A9 g4,e2]at start;exact⟨sg2,start,a2,k1.trans k2⟩
  ·rename_i g4;obtain⟨sg2,e2,a2,k2⟩:=A38 a1 ok.tick (show S.J8+1+1<2 ^ 62 by omega) (show v<S.tick.l.length from hv) (show w<S.tick.l.length from hw);have rt:S.tick.root v=v:=by have:S.tick.root v=S.root v:=(ok.K5 hv).tick.Hw;rw[this,rv]
   have rr:S.tick.roots w=S.roots w:=by unfold E9.roots;rw[(ok.K5 hw).tick.eq]
   rw[A7 g4,e2,rt,rr]at start;simp only[I7,z1q,F3,I6]at start;split
   ·rename_i gi;rw[A9 gi]at start;exact⟨sg2,start,a2,k1.trans k2⟩
   ·rename_i gi;rw[A7 gi]at start;have UC:=ok.tick.tick;have a3:=a2.app [.P9 1 1 [iI 0,iI 0]];have w2:S.tick.tick.root w=w:=by have:S.tick.tick.root w=S.root w:=(ok.K5 hw).tick.tick.Hw;rw[this,rw_]
    have v2:S.tick.tick.root v=v:=by have:S.tick.tick.root v=S.root v:=(ok.K5 hv).tick.tick.Hw;rw[this,rv]
    have kq:=pW a3 UC (show w<S.tick.tick.l.length from hw);rw[w2]at kq;have kk:S.tick.tick.I1 w=S.I1 w:=rfl;rw[kk]at kq;simp only[kq,I7,z1q,TQ]at start;have l2:=a2.lt;have KV:(S.I1 w).length<=2:=by rw[ok.Yl hw];exact aV _
    have A2I:V5 (sg2++[E5.P9 1 1 [iI 0,iI 0]]++[E5.arr 1 []]) sg2.length 1=some (1,frs []):=by simp[V5];rfl
    obtain⟨dD,b1,b2,b3,b4⟩:=A8d (b:=b) (i:=i) (v:=v) (w:=w) (A8:=S.U8 v) (kv:=sg2.length) (n0:=sg2.length) (k:=(S.I1 w).length) (ok.A8 hv) KV (zgq _) (by omega) (by omega) (S.I1 w).length 0 [] S.tick.tick _ (by omega) rfl (a3.app _) UC hv (by rw[v2];exact h6) (by rw[v2];rfl) A2I;have kz:Kp b i sg dD:=by refine(k1.trans k2).trans (Kb.kp ?_);exact((Kb.app sg2 _ (zgq _)).trans (Kb.app _ _ (by simp))).trans b2
    have start:_=Dy C9 b (iN v) (iN w) sg2.length 1 2 (iN (S.I1 w).length) (iN 0) (sg2++[E5.P9 1 1 [iI 0,iI 0]]++[E5.arr 1 []]):=start;obtain⟨f1,f2,f3,f4,f5,f6⟩:=FR (ok.A8 hv) (S.I1 w).length _ UC;simp only;generalize hq:E9.fresh (S.U8 v) (S.I1 w).length S.tick.tick=q at f1 f2 f3 f4 f5 f6 b1 b2 b3 b4 ⊢;split
    ·rename_i ge;exact⟨dD,start.trans (b3 ge),b1,kz⟩
    ·rename_i ge;have g0:q.2.2=0:=Classical.not_not.1 ge;obtain⟨c1,c2⟩:=b4 g0;rw[zsq]at c2;have e7:=YE C9 b (iN v) (iN w) sg2.length 1 2 (iN (S.I1 w).length) (iN (S.I1 w).length) dD;have hwq:w<q.1.l.length:=z6q hw (show S.l.length<=q.1.l.length from f2.le);have wq:q.1.root w=w:=by rw[f2.root UC hw,w2]
     have kwq:q.1.F9 w=S.F9 w:=(Y6.at_ f2.like (show w<S.tick.tick.l.length from hw)).1;have z0:(frs q.2.1)[0]?=some (iN (q.2.1.getD 0 0)):=rfl;have z1:(frs q.2.1)[1]?=some (iN (q.2.1.getD 1 0)):=rfl;have ar0:l7 0 2 (iN 0)=some 0:=rfl;have ar1:l7 0 2 (iI 1)=some 1:=rfl;have ql:=f6 g0;have kw:=ok.knd hw;have kn:=ok.Yl hw;have R8:4∈S.roots w:=Classical.not_not.1 g4;have WQ:S.F9 w=7\/S.F9 w=8\/S.F9 w=9:=by
      by_cases A5d:S.F9 w<=5
      ·exfalso;have h0:(S.I1 w).length=0:=by rw[kn];unfold NH;rw[A7 (by omega),A7 (by omega)]
       obtain⟨d,d1,-,d3,d4,-⟩:=(ok.K5 hw).nd;have hr:(S.K5 w).r=w:=rw_;rw[hr]at d1;have hk:(S.K5 w).D5=[]:=by
        have:d.D5.length=0:=by rw[<- ED d1];exact h0
        exact zRq.1 (by omega)
       rcases NT.CF.1 ((ok.DW hw).1 R8)with e | ⟨u,hu,-⟩
       ·exact absurd (show w=4 by rw[<- hr];exact e.symm) fC
       ·rw[hk]at hu;cases hu
      ·omega
     have p0:q.2.1.getD 0 0<q.1.l.length:=by
      have:0<q.2.1.length:=by rw[ql,kn];unfold NH;split<;>(try split)<;>omega
      rw[zhq,zdq this];exact f5 _ (z3q this)
     have p1:S.F9 w≠8->q.2.1.getD 1 0<q.1.l.length:=by
      intro h8;have:1<q.2.1.length:=by rw[ql,kn];unfold NH;rw[A7 h8,A9 (by omega)];omega
      rw[zhq,zdq this];exact f5 _ (z3q this)
     obtain⟨sg4,x1,x2,x3⟩:=A23 b1 f1 WQ p0 p1;have oe:∀{β : Type}(y:Option β),Mv True y=y:=λy=>by unfold Mv;rw[A9 trivial]
     simp only[Ac,ztq,T9,I7,F3,z0q,G9,TS b1 f1 hwq,wq,kwq,z1q,ar0,c2,z0,beq_self_eq_true,F8,Ba,oe,ar1,z1,x1,Nc,Nf,show(DV.int .i64 0)=iN 0 from rfl,YS]at e7;have vw:=start.trans (c1.trans e7);obtain⟨m1,m2,m3,m4,m5,m6⟩:=Gd f1 WQ p0 p1;generalize q.1.make (S.F9 w) (q.2.1.getD 0 0) (q.2.1.getD 1 0)=z at m1 m2 m3 m4 m5 m6 x1 x2 x3 e7 vw ⊢;split
     ·rename_i gz;simp only[gz,T9,z9q,F6]at vw;exact⟨sg4,vw,x2,kz.trans x3⟩
     ·rename_i gz;have z00:z.2.2=0:=Classical.not_not.1 gz;have vz:v<z.1.l.length:=z6q hv (zOq f2.le m2.le);have rz:z.1.J8=S.J8+2:=by rw[m3,f3];rfl
      obtain⟨sg5,y1,y2,y3⟩:=A22 x2 m1 (by omega) vz m4;simp only[z00,J9,z5q,z0q,G9,y1,I7,z1q]at vw;exact⟨sg5,vw,y2,(kz.trans x3).trans y3⟩
end
section
variable {b i tv:Nat}{S:E9}{sg:List E5}
def pe(p:Nat×Nat):DV:=.agg [iN p.1,iN p.2]
structure Ma(tv Q9:Nat)(sg:List E5)(l:List (Nat×Nat)):Prop where
 P9:∃ds,V5 sg tv Q9=some (2,ds)/\ds.take l.length=l.reverse.map pe/\l.length<=ds.length
variable {Q9:Nat}{l:List (Nat×Nat)}
def Ma.keep{sg':List E5}(h:Ma tv Q9 sg l)(e:sg'[tv]?=sg[tv]?):Ma tv Q9 sg' l:=by obtain⟨ds,a,c,d⟩:=h;exact⟨ds,A1W a e,c,d⟩
def Ma.lt(h:Ma tv Q9 sg l):tv<sg.length:=by obtain⟨ds,a,-⟩:=h;exact dF a
def Ma.pop{p:Nat×Nat}(h:Ma tv Q9 sg (p::l)):Ma tv Q9 sg l/\∃ds,V5 sg tv Q9=some (2,ds)/\ds[l.length]?=some (pe p):=by
 obtain⟨ds,a,c,d⟩:=h;simp only[zfq,List.reverse_cons,ycq,zuq,zGq]at c d;refine⟨⟨ds,a,?_,by omega⟩,ds,a,?_⟩
 ·have:(ds.take (l.length+1)).take l.length=l.reverse.map pe:=by rw[c,List.take_left' (by simp)]
  rwa [List.take_take,Nat.min_eq_left (by omega)]at this
 ·have:(ds.take (l.length+1))[l.length]?=some (pe p):=by rw[c,zoq (by simp)];simp
  rwa [List.getElem?_take_of_lt (by omega)]at this
def Ma.push{p:Nat×Nat}(h:Ma tv Q9 sg l):∃ds,V5 sg tv Q9=some (2,ds)/\l.length<=ds.length/\(ds.take l.length).length=l.length/\Ma tv (Q9+1) (sg.set tv (.P9 (Q9+1) 2 (ds.take l.length++[pe p]))) (p::l):=by have hl:=h.lt;obtain⟨ds,a,c,d⟩:=h;refine⟨ds,a,d,by simp[d],⟨_,Zt hl ..,?_,by simp[d]⟩⟩;rw[zvq (by simp[d]),c];simp
variable {rest:List (Nat×Nat)}
def B28(hr:rest.length<=70001)(hb:tv≠b)(hi:tv≠i)(ks js:List Nat)(hl:ks.length=js.length)(h2:ks.length<=2):∀(j Q9:Nat)(sg:List E5),j<=ks.length->Y7 b i S sg->Ma tv Q9 sg ((ks.drop j).zip (js.drop j)++rest)->
 ∃sg' ver',MJ C9 b (iN 0) (iN 0) tv Q9 ((ks.drop j).zip (js.drop j)++rest).length (.list 1 (ks.map iN)) (.list 1 (js.map iN)) (iI ((j:Int)-1)) sg=V6 C9 b (iN 0) (iN 0) tv ver' (ks.zip js++rest).length sg'/\Y7 b i S sg'/\Ma tv ver' sg' (ks.zip js++rest)/\Kb b i tv sg sg':=by
 intro j;induction j with
 |zero=>intro Q9 sg hj h T;rw[zcq,zcq]at T ⊢;refine⟨sg,Q9,?_,h,T,Kb.refl _⟩;rw[YD];rfl
 |succ j ih=>
   intro Q9 sg hj h T;have hj1:j<ks.length:=by omega
   have FT:j<js.length:=by omega
   obtain⟨ds,d1,d2,d3,T2⟩:=T.push (p:=(ks[j],js[j]));have hz:(ks[j],js[j])::((ks.drop (j+1)).zip (js.drop (j+1))++rest)=(ks.drop j).zip (js.drop j)++rest:=by rw[z4q hj1,z4q FT];rfl
   have hn:((ks.drop (j+1)).zip (js.drop (j+1))++rest).length<=70004:=by rw[zlq,List.length_zip,yiq];omega
   rw[hz]at T2;obtain⟨ms,v,a⟩:=h;obtain⟨sg',ver',x1,x2,x3,x4⟩:=ih (Q9+1) _ (by omega) (a.gB hb hi (.P9 (Q9+1) 2 (ds.take ((ks.drop (j+1)).zip (js.drop (j+1))++rest).length++[pe (ks[j],js[j])]))).at T2;refine⟨sg',ver',?_,x2,x3,(Kb.set sg _ (zgq _)).trans x4⟩;rw[YD];have e1:(DV.int .i64 (((j+1:Nat):Int)-1))=iN j:=by simp only[iN];congr 1;omega
   have e2:D7 .sub (iN j) (iI 1)=some (iI ((j:Int)-1)):=by simp only[iN];rw[Jo,Gq (by omega) (by omega)]
   have ap:KJ 2 (.list 2 (ds.take ((ks.drop (j+1)).zip (js.drop (j+1))++rest).length)) (.list 2 [pe (ks[j],js[j])])=some (ds.take ((ks.drop (j+1)).zip (js.drop (j+1))++rest).length,[pe (ks[j],js[j])]):=by simp only[KJ,and_self,true_and,d3,zfq,zeq];rw[A9 ⟨by unfold R6;omega,by omega⟩]
   have ep:DV.agg [iN ks[j],iN js[j]]=pe (ks[j],js[j]):=rfl;simp only[e1,B0K,I7,F3,F6,IL hj1,IL FT,Ba,P5,F8,d1,beq_self_eq_true,zjq,d2,J9,ep,ap,d3,zfq,zeq,zPq,e2];have ut:((ks.drop (j+1)).zip (js.drop (j+1))++rest).length+1=((ks.drop j).zip (js.drop j)++rest).length:=by rw[<- hz];rfl
   rw[ut];exact x1
def B3T(hr:rest.length<=70001)(hb:tv≠b)(hi:tv≠i)(h:Y7 b i S sg)(ok:S.Ok){x y:Nat}(hx:x<S.l.length)(hy:y<S.l.length)(hk:S.F9 (S.root x)=S.F9 (S.root y))(T:Ma tv Q9 sg rest):
 ∃sg' ver',GY C9 b (iN 0) (iN 0) tv Q9 rest.length (iN x) (iN y) sg=V6 C9 b (iN 0) (iN 0) tv ver' ((S.I1 (S.root x)).zip (S.I1 (S.root y))++rest).length sg'/\Y7 b i S sg'/\Ma tv ver' sg' ((S.I1 (S.root x)).zip (S.I1 (S.root y))++rest)/\Kb b i tv sg sg':=by
 have k1:=pW h ok hx;have h1:=h.app [.arr 1 []];have k2:=pW h1 ok hy;have h2:=h1.app [.arr 1 []];have lx:=ok.Yl (ok.Gs hx);have ly:=ok.Yl (ok.Gs hy);have l2:(S.I1 (S.root x)).length<=2:=by rw[lx];exact aV _
 have tl:=T.lt;have T2:Ma tv Q9 (sg++[.arr 1 []]++[.arr 1 []]) rest:=T.keep (by rw[zaq (by simp;omega),zaq tl]);obtain⟨sg',ver',x1,x2,x3,x4⟩:=B28 (S:=S) (rest:=rest) hr hb hi (S.I1 (S.root x)) (S.I1 (S.root y)) (by rw[lx,ly,hk]) l2 (S.I1 (S.root x)).length Q9 _ (zgq _) h2 (by rw[yjq];simpa using T2);rw[yjq]at x1;simp only[List.zip_nil_left,zsq]at x1;refine⟨sg',ver',?_,x2,x3,((Kb.app sg [.arr 1 []] (by omega)).trans (Kb.app (sg++[.arr 1 []]) [.arr 1 []] (by simp;omega))).trans x4⟩;rw[xL];have e2:D7 .sub (iN (S.I1 (S.root x)).length) (iI 1)=some (iI (((S.I1 (S.root x)).length:Int)-1)):=by simp only[iN];rw[Jo,Gq (by omega) (by omega)]
 simp only[k1,k2,I7,z1q,TQ,e2];exact x1
def B0d{F:E9}{H:Nat}(okF:F.Ok)(hF:F.J8+10<2 ^ 62)(hH:H<=70000)(hb:tv≠b)(hi:tv≠i):∀(f:Nat)(S:E9)(todo:List (Nat×Nat))(sg:List E5)(Q9:Nat)(q:E9×Nat×Nat×Nat),E9.Q6 f S todo=some q->q.1=F->S.Ok->(∀p∈todo,p.1<S.l.length/\p.2<S.l.length)->Low F H todo->Y7 b i S sg->Ma tv Q9 sg todo->
 ∃sg',V6 C9 b (iN 0) (iN 0) tv Q9 todo.length sg=some ([iN q.2.1,iN q.2.2.1,iN q.2.2.2],sg')/\Y7 b i F sg'/\Kb b i tv sg sg':=by
 intro f;induction f with
 |zero=>intro S todo sg Q9 q h;simp[E9.Q6]at h
 |succ f ih=>
   intro S todo sg Q9 q hq hqF ok hl B4w h T;obtain⟨okq,eq_,st⟩:=d_ (f+1) S todo q ok hl hq;rw[hqF]at eq_ st;have rle:=eq_.J8;cases todo with
   |nil=>
     simp only[E9.Q6,D8]at hq;subst hq;simp only at hqF;subst hqF;refine⟨sg,?_,h,Kb.refl _⟩;rw[ZC];simp only[zeq,A17,I7,show(DV.int .i64 0)=iN 0 from rfl,yV,ztq,T9,F3,z0q,G9]
     rw[ZB];have z:D7 .gtr (iN 0) (iI 0)=some (.bool false):=rfl;simp only[z,I7,F3,z0q,G9]
     try rfl
   |cons p rest=>
     obtain⟨h1,h2⟩:=hl p (zpq ..);have CJ:∀q∈rest,q.1<S.l.length/\q.2<S.l.length:=λq hq=>hl q (zrq _ hq);obtain⟨T1,ds,t1,t2⟩:=T.pop;have rl:=B4w.2.len;have tl:=T.lt;have x1:=ok.Gs h1;have x2:=ok.Gs h2;have start:=ZC C9 b (iN 0) (iN 0) tv Q9 (rest.length+1) sg;have p0:C8 0 (pe p)=iN p.1:=rfl;have p1:C8 1 (pe p)=iN p.2:=rfl;have bd:bnd (rest.length+1) (some (iN rest.length))=some rest.length:=by simp only[bnd,iN];rw[A9 (by omega)];congr 1
     have k6:∀k,D7 .eql (iN k) (iI 6)=some (.bool (decide (k=6))):=λk=>PT k 6;have k4:∀k,D7 .eql (iN k) (iI 4)=some (.bool (decide (k=4))):=λk=>PT k 4;simp only[A17,I7,yV,show(DV.int .i64 0)=iN 0 from rfl,Nat.succ_pos,J9,F3,F6,B1I (show rest.length<2 ^ 62 by omega),Jn (show rest.length<rest.length+1 by omega),t1,t2,beq_self_eq_true,F8,bd,A9 (show rest.length<=rest.length+1 by omega),p0,p1,OC h ok h1,OC h ok h2,z1q,PT,I6,k4,k6]at start;rw[zfq];have A2P:=B4w.2;have go:∀(T':E9)(K4:List E5)(ver':Nat)(l:List (Nat×Nat)),E9.Q6 f T' l=some q->T'.Ok->(∀p∈l,p.1<T'.l.length/\p.2<T'.l.length)->Low F H l->Y7 b i T' K4->Ma tv ver' K4 l->Kb b i tv sg K4->V6 C9 b (iN 0) (iN 0) tv Q9 (rest.length+1) sg=V6 C9 b (iN 0) (iN 0) tv ver' l.length K4->
      ∃sg',V6 C9 b (iN 0) (iN 0) tv Q9 (rest.length+1) sg=some ([iN q.2.1,iN q.2.2.1,iN q.2.2.2],sg')/\Y7 b i F sg'/\Kb b i tv sg sg':=by
      intro T' K4 ver' l um okT hlT lowT hT TT K e;obtain⟨sg',y1,y2,y3⟩:=ih T' l K4 ver' q um hqF okT hlT lowT hT TT;exact⟨sg',e.trans y1,y2,K.trans y3⟩
     have kp:∀{K4:List E5},Kp b i sg K4->Ma tv Q9 K4 rest:=λk=>T1.keep (k.eq tv tl hb hi);have goK:∀(T':E9)(K4:List E5)(x y:Nat),E9.Q6 f T' ((T'.I1 (T'.root x)).zip (T'.I1 (T'.root y))++rest)=some q->T'.Ok->Y3 S T'->BD T' F->Y7 b i T' K4->Kp b i sg K4->x<T'.l.length->y<T'.l.length->T'.F9 (T'.root x)=T'.F9 (T'.root y)->T'.F9 (T'.root x)≠6->T'.root p.1=T'.root x->V6 C9 b (iN 0) (iN 0) tv Q9 (rest.length+1) sg=GY C9 b (iN 0) (iN 0) tv Q9 rest.length (iN x) (iN y) K4->
      ∃sg',V6 C9 b (iN 0) (iN 0) tv Q9 (rest.length+1) sg=some ([iN q.2.1,iN q.2.2.1,iN q.2.2.2],sg')/\Y7 b i F sg'/\Kb b i tv sg sg':=by
      intro T' K4 x y um okT ex sF hT k hx hy hk h6 hp e;obtain⟨sg2,ver',z1,z2,z3,z4⟩:=B3T (rest:=rest) (by omega) hb hi hT okT hx hy hk (kp k);have hpT:=z6q h1 ex.le;have rx:F.root x=T'.root x:=sF.root x hx h6;have kx:F.I1 (F.root x)=T'.I1 (T'.root x):=by rw[rx];exact(sF.at_ _ (okT.Gs hx)).2
      have xF:=z6q hx sF.le;have pF:=z6q hpT sF.le;have hh:F.K5 x=F.K5 p.1:=by
       have e1:F.K5 (F.root x)=F.K5 x:=(okF.K5 xF).self.eq;have e2:F.K5 (F.root p.1)=F.K5 p.1:=(okF.K5 pF).self.eq;have e3:F.root p.1=F.root x:=by rw[<- sF.same p.1 hpT,hp,sF.same x hx]
       rw[<- e1,<- e3,e2]
      have lz:=Low.zip okF xF A2P (by rw[hh];exact B4w.1) (T'.I1 (T'.root y)) (by rw[kx,okT.Yl (okT.Gs hx)];exact aV _);rw[kx]at lz;refine go T' sg2 ver' _ um okT (λw hw=>?_) lz z2 z3 ((k.kb (by omega)).trans z4) (e.trans z1);rcases znq.1 hw with hw | hw
      ·exact⟨okT.Nn hx (y2q hw).1,okT.Nn hy (y2q hw).2⟩
      ·exact⟨z6q (CJ w hw).1 ex.le,z6q (CJ w hw).2 ex.le⟩
     have fin:∀(K4:List E5),Y7 b i q.1 K4->Kp b i sg K4->V6 C9 b (iN 0) (iN 0) tv Q9 (rest.length+1) sg=some ([iN q.2.1,iN q.2.2.1,iN q.2.2.2],K4)->∃sg',V6 C9 b (iN 0) (iN 0) tv Q9 (rest.length+1) sg=some ([iN q.2.1,iN q.2.2.1,iN q.2.2.2],sg')/\Y7 b i F sg'/\Kb b i tv sg sg':=by intro K4 a k e;exact⟨K4,e,by rw[<- hqF];exact a,k.kb (by omega)⟩
     have rt2:∀{T':E9},Y3 S T'->∀w∈rest,w.1<T'.l.length/\w.2<T'.l.length:=λe w hw=>⟨z6q (CJ w hw).1 e.le,z6q (CJ w hw).2 e.le⟩;have stF:∀{T':E9}{l:List (Nat×Nat)},E9.Q6 f T' l=some q->T'.Ok->(∀p∈l,p.1<T'.l.length/\p.2<T'.l.length)->BD T' F:=λa c d=>by
      have:=(d_ f _ _ q c d a).2.2
      rwa [hqF]at this
     have B5L:∀(T':E9)(x y:Nat),T'.Ok->Y3 S T'->x<T'.l.length->y<T'.l.length->∀w∈(T'.I1 (T'.root x)).zip (T'.I1 (T'.root y))++rest,w.1<T'.l.length/\w.2<T'.l.length:=by
      intro T' x y okT e hx hy w hw;rcases znq.1 hw with hw | hw
      ·exact⟨okT.Nn hx (y2q hw).1,okT.Nn hy (y2q hw).2⟩
      ·exact rt2 e w hw
     rw[Y8]at hq;by_cases c1:S.root p.1=S.root p.2
     ·rw[A9 c1]at hq start;exact go S sg Q9 rest hq ok CJ A2P h T1 (Kb.refl _) start
     rw[A7 c1]at hq start;by_cases c2:S.root p.1=4
     ·rw[A9 c2]at hq start;obtain⟨K4,e1,a1,k1⟩:=A7O (A8:=0) h ok (by omega) x2;rw[e1]at start;exact go _ K4 Q9 rest hq (ok.lower _ _) (rt2 (Y3.lower S _ _)) A2P a1 (kp k1) (k1.kb (by omega)) start
     rw[A7 c2]at hq start;by_cases c3:S.root p.2=4
     ·rw[A9 c3]at hq start;obtain⟨K4,e1,a1,k1⟩:=A7O (A8:=0) h ok (by omega) x1;rw[e1]at start;exact go _ K4 Q9 rest hq (ok.lower _ _) (rt2 (Y3.lower S _ _)) A2P a1 (kp k1) (k1.kb (by omega)) start
     rw[A7 c3]at hq start;simp only[TS h ok x1,ok.rr h1,I7,z1q,k6,F3,I6]at start;by_cases c4:S.F9 (S.root p.1)=6
     ·rw[A9 c4]at hq start;have B:=LA ok x1 x2 (ok.rr h1) (ok.rr h2) c1 c3 c4;obtain⟨B2,B3⟩:=BD.become ok x1 x2 (ok.rr h1) (ok.rr h2) c1 c3 c4;obtain⟨K4,e1,a1,k1⟩:=A39 h ok (by omega) x1 x2 (ok.rr h1) (ok.rr h2) c1 c3 c4;simp only[e1,I7,Nc,Nf,show(DV.int .i64 0)=iN 0 from rfl,YS,F3]at start;by_cases e0:(S.become (S.root p.1) (S.root p.2)).2.2=0
      ·rw[A7 (λg=>g e0)]at hq;cases hm:(S.become (S.root p.1) (S.root p.2)).2.1 with
       |none=>rw[hm]at hq;have ln:D7 .lss (lnk none) (iN 0)=some (.bool true):=rfl;simp only[e0,hm,J9,z5q,z0q,G9,ln,I7,F3,F6]at start;exact go _ K4 Q9 rest hq B.ok (rt2 B.ext) A2P a1 (kp k1) (k1.kb (by omega)) start
       |some m=>
         rw[hm]at hq;obtain⟨b1,b2,b3,b4⟩:=B.some m e0 hm;have ln:∀m,D7 .lss (lnk (some m)) (iN 0)=some (.bool false):=λm=>uw m;simp only[e0,hm,J9,z5q,z0q,G9,ln,I7,F3]at start;have yl:=z6q x2 B.ext.le;refine goK _ K4 m (S.root p.2) hq B.ok B.ext (stF hq B.ok (B5L _ m _ B.ok B.ext b1 yl)) a1 k1 b1 yl b3 ?_ ?_ start
         ·rw[b3,b4];intro h6;unfold E9.become at hm;rw[A9 h6]at hm;cases hm
         ·rw[<- B3 m e0 hm];exact(B2.same _ h1).symm
      ·rw[A9 e0]at hq;simp only[D8]at hq;subst hq;simp only[e0,T9,z9q,F6]at start;exact fin K4 a1 k1 start
     rw[A7 c4]at hq start;simp only[TS h ok x2,ok.rr h2,I7,z1q,k6,F3,I6]at start;by_cases c5:S.F9 (S.root p.2)=6
     ·rw[A9 c5]at hq start;have B:=LA ok x2 x1 (ok.rr h2) (ok.rr h1) (Ne.symm c1) c2 c5;obtain⟨B2,B3⟩:=BD.become ok x2 x1 (ok.rr h2) (ok.rr h1) (Ne.symm c1) c2 c5;obtain⟨K4,e1,a1,k1⟩:=A39 h ok (by omega) x2 x1 (ok.rr h2) (ok.rr h1) (Ne.symm c1) c2 c5;simp only[e1,I7,Nc,Nf,show(DV.int .i64 0)=iN 0 from rfl,YS,F3]at start;by_cases e0:(S.become (S.root p.2) (S.root p.1)).2.2=0
      ·rw[A7 (λg=>g e0)]at hq;cases hm:(S.become (S.root p.2) (S.root p.1)).2.1 with
       |none=>rw[hm]at hq;have ln:D7 .lss (lnk none) (iN 0)=some (.bool true):=rfl;simp only[e0,hm,J9,z5q,z0q,G9,ln,I7,F3,F6]at start;exact go _ K4 Q9 rest hq B.ok (rt2 B.ext) A2P a1 (kp k1) (k1.kb (by omega)) start
       |some m=>rw[hm]at hq;obtain⟨b1,b2,b3,b4⟩:=B.some m e0 hm;have ln:∀m,D7 .lss (lnk (some m)) (iN 0)=some (.bool false):=λm=>uw m;simp only[e0,hm,J9,z5q,z0q,G9,ln,I7,F3]at start;have xl:=z6q x1 B.ext.le;exact goK _ K4 (S.root p.1) m hq B.ok B.ext (stF hq B.ok (B5L _ _ m B.ok B.ext xl b1)) a1 k1 xl b1 b3.symm (by rw[b4];exact c4) (B2.same _ h1).symm start
      ·rw[A9 e0]at hq;simp only[D8]at hq;subst hq;simp only[e0,T9,z9q,F6]at start;exact fin K4 a1 k1 start
     rw[A7 c5]at hq start;simp only[TS h ok x1,TS h ok x2,ok.rr h1,ok.rr h2,I7,z1q,YS,F3]at start;by_cases c6:S.F9 (S.root p.1)=S.F9 (S.root p.2)
     ·rw[A7 (λg=>g c6)]at hq;simp only[c6,J9,z5q,z0q,G9]at start;have VQ:E9.Q6 f S ((S.I1 (S.root (S.root p.1))).zip (S.I1 (S.root (S.root p.2)))++rest)=some q:=by rw[ok.rr h1,ok.rr h2];exact hq
      exact goK S sg (S.root p.1) (S.root p.2) VQ ok (Y3.refl S) st h (Kp.refl _) x1 x2 (by rw[ok.rr h1,ok.rr h2];exact c6) (by rw[ok.rr h1];exact c4) (ok.rr h1).symm start
     ·rw[A9 c6]at hq;simp only[D8]at hq;subst hq;have kd:=ok.knd x1;simp only[c6,T9,z9q,F6]at start;rw[ZB]at start;have:D7 .gtr (iN (S.F9 (S.root p.1))) (iI 0)=some (.bool true):=by exact(yV _ 0).trans (by rw[decide_eq_true (by omega)])
      rw[this]at start;exact fin sg h (Kp.refl _) start
def A7M(h:Y7 b i S sg)(ok:S.Ok){x y:Nat}(hx:x<S.l.length)(hy:y<S.l.length)(hr:(S.agree x y).1.J8+10<2 ^ 62):
 Xu b i sg (C9.r Sl [(.undef,.ptr b 0),(iN x,.val),(iN y,.val)] sg) [iN (S.agree x y).2.1,iN (S.agree x y).2.2.1,iN (S.agree x y).2.2.2] (S.agree x y).1:=by
 obtain⟨f,hf⟩:=aT ok hx hy;obtain⟨o1,o2,o3⟩:=aU ok hx hy;have hl:=h.lt;have hs:=h.app [.P9 1 2 [pe (x,y)]];have T:Ma sg.length 1 (sg++[.P9 1 2 [pe (x,y)]]) [(x,y)]:=⟨[pe (x,y)],by simp[V5],rfl,by simp⟩;have hh:=o1.high (z6q hx o3.le);have ll:=o1.len;obtain⟨sg',e1,a1,k1⟩:=B0d (tv:=sg.length) (b:=b) (i:=i) (H:=70000) o1 hr (zgq _) (by omega) (by omega) f S [(x,y)] _ 1 (S.agree x y) hf rfl ok (by simp[hx,hy]) ⟨by simp only[zeq];omega,trivial⟩ hs T;refine⟨sg',?_,a1,⟨by have:=k1.le;simp only[zlq]at this;omega,λj hj g1 g2=>(k1.eq j hj g1 g2).trans (zaq hj)⟩⟩
 ·refine(A1h _ _ _ _).trans ?_;rw[A2k];simp only[OC h ok hx,OC h ok hy,I7,z1q,uw,Q3,F3,z0q,G9,P5,F8];exact e1
end
section
attribute [local simp] F5.AA
def GJ.cells(b:GJ):List (DV×F4):=[(iI b.lo,.val),(iI b.hi,.val),(iN b.why,.val),(iN b.left,.val),(iN b.right,.val),(.str b.name,.val)]
def GJ.D9(b:GJ):DV:=.agg [iI b.lo,iI b.hi,iN b.why,iN b.left,iN b.right,.str b.name]
structure Kx(X:List Nat)(sg sg':List E5):Prop where
 le:sg.length<=sg'.length
 eq:∀j,j<sg.length->j∉X->sg'[j]?=sg[j]?
variable {X:List Nat}(sg:List E5)
def Kx.refl:Kx X sg sg:=⟨zgq _,λ_ _ _=>rfl⟩
def Kx.trans{x y z:List E5}(h:Kx X x y)(k:Kx X y z):Kx X x z:=⟨zOq h.le k.le,λj hj hx=>(k.eq j (z6q hj h.le) hx).trans (h.eq j hj hx)⟩
def Kx.more{Y:List Nat}{x y:List E5}(h:Kx X x y)(s:∀j∈X,j∈Y):Kx Y x y:=⟨h.le,λj hj hx=>h.eq j hj λg=>hx (s j g)⟩
def Kp.kx{b i:Nat}{x y:List E5}(h:Kp b i x y):Kx [b,i] x y:=⟨h.le,λj hj hx=>by simp only[zxq,zmq,or_false,not_or]at hx;exact h.eq j hj hx.1 hx.2⟩
def Kx.set1{k:Nat}(o:E5)(h:k∈X):Kx X sg (sg.set k o):=⟨by simp,λj hj hx=>z2q (by intro e;subst e;exact hx h)⟩
def Kx.app(L:List E5):Kx X sg (sg++L):=⟨by simp,λj hj _=>zaq hj⟩
def Vh(b A8 j1 n1 j2 n2:Nat)(P:PS):List (DV×F4):=[(.undef,.ptr b 0),(iN A8,.val),(.list 1 (P.names.map DV.str),.U0 j1 n1 1),(.list 1 (P.nodes.map iN),.U0 j2 n2 1)]++P.bad.cells
structure qH(b i A8 x j1 j2:Nat)(P:PS)(sg:List E5):Prop where
 st:Y7 b i P.s sg
 box:∃n1 n2,H5 sg x=some (Vh b A8 j1 n1 j2 n2 P)/\sg[j1]?=some (.U0 n1 1 P.names.length)/\sg[j2]?=some (.U0 n2 1 P.nodes.length)
structure A5o(b i x j1 j2:Nat):Prop where
 xx:x≠b/\x≠i
 y1:j1≠b/\j1≠i/\j1≠x
 y2:j2≠b/\j2≠i/\j2≠x/\j2≠j1
section
variable {b i A8 x j1 j2:Nat}{P:PS}{sg:List E5}{sg':List E5}
def Y7.mono{S:E9}(h:Y7 b i S sg)(h1:sg'[b]?=sg[b]?)(h2:sg'[i]?=sg[i]?):Y7 b i S sg':=by obtain⟨ms,v,a⟩:=h;exact⟨ms,v,a.mono h1 h2⟩
def qH.kp{S:E9}(h:qH b i A8 x j1 j2 P sg)(A:A5o b i x j1 j2)(k:Kp b i sg sg')(a:Y7 b i S sg'):qH b i A8 x j1 j2 { P with s:=S } sg':=by obtain⟨n1,n2,c1,c2,c3⟩:=h.box;have l1:=CY c1;have l2:=(z7q.1 c2).1;have l3:=(z7q.1 c3).1;exact⟨a,n1,n2,by rw[Jy (k.eq x l1 A.xx.1 A.xx.2)];exact c1,by rw[k.eq j1 l2 A.y1.1 A.y1.2.1];exact c2,by rw[k.eq j2 l3 A.y2.1 A.y2.2.1];exact c3⟩
def A5n(b i A8 x j1 j2:Nat)(sg:List E5)(r:Option (List DV×List E5))(ds:List DV)(P:PS):Prop:=∃sg',r=some (ds,sg')/\qH b i A8 x j1 j2 P sg'/\Kx [b,i,x,j1,j2] sg sg'
def Kp.k5(h:Kp b i sg sg'):Kx [b,i,x,j1,j2] sg sg':=h.kx.more (by intro j hj;simp only[zxq,zmq,or_false]at hj ⊢;omega)
theorem jP(a c d:DV):Q0 0 (.J6 [a,c,d])=some a:=rfl
theorem jQ(a c d:DV):Q0 1 (.J6 [a,c,d])=some c:=rfl
theorem jR(a c d:DV):Q0 2 (.J6 [a,c,d])=some d:=rfl
variable (p:F5)
def A7d:DV.agg [C8 0 p.D9,C8 1 p.D9,C8 2 p.D9,C8 3 p.D9,C8 4 p.D9,C8 5 p.D9,C8 6 p.D9]=p.D9:=by simp
def A4b(h:qH b i A8 x j1 j2 P sg)(A:A5o b i x j1 j2)(ok:P.s.Ok)(p:F5){m n:Nat}(hm:m<P.s.l.length)(hn:n<P.s.l.length)(hr:(P.agree p.lo p.hi m n).1.s.J8+10<2 ^ 62):
 A5n b i A8 x j1 j2 sg (C9.r MF [(.undef,.ptr x 0),(p.D9,.val),(iN m,.val),(iN n,.val)] sg) [iN (P.agree p.lo p.hi m n).2] (P.agree p.lo p.hi m n).1:=by
 obtain⟨n1,n2,c1,c2,c3⟩:=h.box;have cp:X8 (Vh b A8 j1 n1 j2 n2 P) 0=some b:=rfl;obtain⟨K4,e1,a1,k1⟩:=A7M h.st ok hm hn hr;have h1:=h.kp A k1 a1;have start:=(sG x p.D9 (iN m) (iN n) sg).trans (uD _ _ _ _ _ _);have n0:∀k,D7 .neq (iN k) (iI 0)=some (.bool (!decide (k=0))):=λk=>YS k 0;have n7:∀k,D7 .neq (iN k) (iI 7)=some (.bool (!decide (k=7))):=λk=>YS k 7;simp only[LQ,F8,c1,I7,cp,e1,jP,jQ,jR,n0,n7,Q3,F3,P5]at start;unfold PS.agree;by_cases g:(P.s.agree m n).2.2.2=0
 ·simp only[g,J9,z5q,z0q,G9]at start;refine⟨K4,by rw[start,<- g],?_,k1.k5⟩;rw[A7 (λq=>q.1 g)];exact h1
 ·by_cases g7:(P.s.agree m n).2.2.2=7
  ·simp only[g,g7,J9,z5q,z0q,G9,T9,z9q,F6]at start;refine⟨K4,by rw[start];simp only[g7];rfl,?_,k1.k5⟩;rw[A7 (λq=>q.2 g7)];exact h1
  ·rw[A9 ⟨g,g7⟩];obtain⟨m1,m2,d1,d2,d3⟩:=h1.box;have ln:(Vh b A8 j1 m1 j2 m2 P).length=10:=rfl;have d1':H5 K4 x=some (Vh b A8 j1 m1 j2 m2 P):=d1;simp only[g,g7,T9,z9q,F6,d1',I7,ln]at start;rw[A9 (by omega)]at start;have lx:=CY d1
   let B:GJ:=⟨p.lo,p.hi,(P.s.agree m n).2.2.2,(P.s.agree m n).2.1,(P.s.agree m n).2.2.1,Y4⟩
   refine⟨K4.set x (.box (Vh b A8 j1 m1 j2 m2 { P with bad:=B })),by rw[start,F5.FZ,F5.Dl];rfl,⟨?_,m1,m2,Bg lx _,?_,?_⟩,(k1.k5).trans (Kx.set1 _ _ (by simp))⟩
   ·exact h1.st.mono (z2q A.xx.1) (z2q A.xx.2)
   ·rw[z2q (Ne.symm A.y1.2.2)];exact d2
   ·rw[z2q (Ne.symm A.y2.2.2.1)];exact d3
def pX(h:qH b i A8 x j1 j2 P sg)(A:A5o b i x j1 j2)(ok:P.s.Ok)(hl:A8<2 ^ 31)(p:F5){n k many:Nat}(hk:k=7/\many=2\/k=8/\many=1)(hn:n<P.s.l.length)(hr:(P.made A8 p.lo p.hi n k many).1.s.J8+10<2 ^ 62):
 A5n b i A8 x j1 j2 sg (C9.r CV [(.undef,.ptr x 0),(p.D9,.val),(iN n,.val),(iN k,.val),(iN many,.val)] sg)
  [.list 1 ((P.made A8 p.lo p.hi n k many).2.1.map iN),iN (P.made A8 p.lo p.hi n k many).2.2.1,iN (P.made A8 p.lo p.hi n k many).2.2.2] (P.made A8 p.lo p.hi n k many).1:=by
 have n0:∀k,D7 .neq (iN k) (iI 0)=some (.bool (!decide (k=0))):=λk=>YS k 0;have loop:∀(q j:Nat)(out:List Nat)(P:PS)(sg:List E5),j+q=many->out.length=j->qH b i A8 x j1 j2 P sg->P.s.Ok->
  ∃sg',qH b i A8 x j1 j2 { P with s:=(E9.fresh A8 q P.s).1 } sg'/\Kx [b,i,x,j1,j2] sg sg' /\(((E9.fresh A8 q P.s).2.2≠0->Ct C9 x (iN n) (iN k) (iN many) (.list 1 (out.map iN)) (iN many) (iN j) p.D9 sg=some ([.list 1 [],iN 0,iN (E9.fresh A8 q P.s).2.2],sg')) /\((E9.fresh A8 q P.s).2.2=0->Ct C9 x (iN n) (iN k) (iN many) (.list 1 (out.map iN)) (iN many) (iN j) p.D9 sg=Ct C9 x (iN n) (iN k) (iN many) (.list 1 ((out++(E9.fresh A8 q P.s).2.1).map iN)) (iN many) (iN many) p.D9 sg')):=by
  intro q;induction q with
  |zero=>intro j out P sg hj ho h ok;exact⟨sg,h,Kx.refl _,λg=>absurd rfl g,λ_=>by rw[show j=many by omega];simp[E9.fresh]⟩
  |succ q ih=>
    intro j out P sg hj ho h ok;have O9:j<many:=by omega
    obtain⟨n1,n2,c1,c2,c3⟩:=h.box;have cp:X8 (Vh b A8 j1 n1 j2 n2 P) 0=some b:=rfl;have cl:U6 (Vh b A8 j1 n1 j2 n2 P) 1=some (iN A8):=rfl;obtain⟨K4,e1,a1,k1⟩:=A7P h.st ok A8;obtain⟨o1,o2,o3,o4,-,-⟩:=Lg ok hl;have h1:=h.kp A k1 a1;have start:=Uo C9 x (iN n) (iN k) (iN many) (.list 1 (out.map iN)) (iN many) (iN j) p.D9 sg;simp only[Ac,I7,F3,O9,J9,F6,c1,cp,cl,e1,Nc,Nf,n0]at start;rw[E9.fresh];by_cases he:(P.s.var A8).2.2=0
    ·rw[A9 he];simp only[he,J9,z5q,z0q,G9,P5,F8,zP (show out.length<2 ^ 31 by omega),I7,addN (show j<2 ^ 62 by omega)]at start;obtain⟨sg2,b1,b2,b3,b4⟩:=ih (j+1) (out++[(P.s.var A8).2.1]) _ K4 (by omega) (by simp[ho]) h1 o1;refine⟨sg2,b1,k1.k5.trans b2,λg=>start.trans (b3 g),λg=>?_⟩;rw[start.trans (b4 g)];simp
    ·rw[A7 he];simp only[he,T9,z9q,F6]at start;exact⟨K4,h1,k1.k5,λ_=>start,λg=>absurd g he⟩
 obtain⟨K4,h1,k1,b3,b4⟩:=loop many 0 [] P sg (by omega) rfl h ok;have st:C9.r CV [(.undef,.ptr x 0),(p.D9,.val),(iN n,.val),(iN k,.val),(iN many,.val)] sg=Ct C9 x (iN n) (iN k) (iN many) (.list 1 ([].map iN)) (iN many) (iN 0) p.D9 sg:=by refine(uN x p.D9 (iN n) (iN k) (iN many) sg).trans ((xK _ _ _ _ _ _ _).trans ?_);rw[LQ];rfl
 obtain⟨f1,f2,f3,f4,f5,f6⟩:=FR hl many P.s ok;unfold PS.made at hr ⊢;simp only at hr ⊢;generalize E9.fresh A8 many P.s=q at h1 b3 b4 f1 f2 f3 f4 f5 f6 hr ⊢;by_cases g:q.2.2=0
 ·rw[A7 (λh=>h g)]at hr ⊢;have ql:=f6 g;have p0:∀i,i<many->q.2.1.getD i 0<q.1.l.length:=by intro i hi;rw[zhq,zdq (by omega)];exact f5 _ (z3q (by omega))
  obtain⟨n1,n2,c1,c2,c3⟩:=h1.box;have cp:X8 (Vh b A8 j1 n1 j2 n2 { P with s:=q.1 }) 0=some b:=rfl;have st2:=st.trans (b4 g);rw[zsq,Uo]at st2;have ix:∀i,i<many->O0 1 (.list 1 (q.2.1.map iN)) (iN i)=some (iN (q.2.1.getD i 0)):=λi hi=>by rw[IL (show i<q.2.1.length by omega),zhq,zdq (by omega)];rfl
  have mz:0<many:=by omega
  have sm:D7 .sub (iN many) (iI 1)=some (iN (many-1)):=by obtain⟨m',rfl⟩:∃m',many=m'+1:=⟨many-1,by omega⟩;rw[B1I (by omega)];rfl
  have ix0:O0 1 (.list 1 (q.2.1.map iN)) (iI 0)=some (iN (q.2.1.getD 0 0)):=ix 0 mz;obtain⟨sg2,e2,a2,k2⟩:=A23 h1.st f1 (k:=k) (x:=q.2.1.getD 0 0) (y:=q.2.1.getD (many-1) 0) (by omega) (p0 0 mz) (λ_=>p0 (many-1) (by omega));simp only[Ac,ztq,T9,I7,F3,z0q,G9,c1,cp,ix0,Ba,F8,sm,ix (many-1) (by omega),e2,Nc,Nf,n0]at st2;obtain⟨m1,m2,m3,m4,m5,m6⟩:=Gd f1 (k:=k) (x:=q.2.1.getD 0 0) (y:=q.2.1.getD (many-1) 0) (by omega) (p0 0 mz) (λ_=>p0 (many-1) (by omega));have h2:=h1.kp A k2 a2;generalize q.1.make k (q.2.1.getD 0 0) (q.2.1.getD (many-1) 0)=z at e2 a2 st2 m1 m2 m3 m4 m5 m6 h2 hr ⊢;by_cases gz:z.2.2=0
  ·rw[A7 (λh=>h gz)]at hr ⊢;simp only[gz,J9,z5q,z0q,G9,F5.pj,F5.AA,F5.ag]at st2;obtain⟨dD,e3,a3,k3⟩:=A4b h2 A m1 p (z6q hn (zOq f2.le m2.le)) m4 hr;refine⟨dD,?_,a3,(k1.trans k2.k5).trans k3⟩;rw[st2,e3];rfl
  ·rw[A9 gz];simp only[gz,T9,z9q,F6]at st2;exact⟨sg2,st2,h2,k1.trans k2.k5⟩
 ·rw[A9 g];exact⟨K4,st.trans (b3 g),h1,k1⟩
def A2E{sg:List E5}{j n:Nat}{ds:List DV}{d:DV}(h:sg[j]?=some (.U0 n 1 ds.length))(hl:ds.length<2 ^ 31):Sb sg j n 1 (.list 1 ds) (.list 1 [d])=some (.list 1 (ds++[d]),sg.set j (.U0 (n+1) 1 (ds.length+1))):=by
 unfold Sb;rw[h];have:KJ 1 (.list 1 ds) (.list 1 [d])=some (ds,[d]):=by simp only[KJ,and_self,true_and,zfq,zeq];rw[A9 ⟨by unfold R6;omega,by omega⟩]
 simp[this,I7]
theorem B7i{k:Int}(h1:3<=k)(h2:k<=6):C9.p gQ [iI k]=some (iI (k-2)):=by
 refine(A4F _).trans ?_;rw[A5O];have:k=3\/k=4\/k=5\/k=6:=by omega
 rcases this with rfl | rfl | rfl | rfl<;>rfl
end
end
def Ol(x:PS)(A8:Nat)(lo hi:Int)(n k many:Nat):(x.made A8 lo hi n k many).1.names=x.names/\(x.made A8 lo hi n k many).1.nodes=x.nodes:=by
 unfold PS.made;simp only
 split
 ·exact⟨rfl,rfl⟩
 ·split<;>exact⟨rfl,rfl⟩
mutual
theorem A0k(A8:Nat):∀(p:F5)(nd:Nat)(x:PS),(BA A8 p nd x).1.names.length<=x.names.length+p.size/\(BA A8 p nd x).1.nodes.length<=x.nodes.length+p.size
 |.mk k lo hi name n s ks,nd,x=>by
   have hz:=F5.size_eq (.mk k lo hi name n s ks);rw[F5.U7]at hz;rw[BA];split
   ·exact⟨by simp,by simp⟩
   ·split
    ·simp only[zlq,zfq,zeq];omega
    ·split
     ·obtain⟨m1,m2⟩:=Ol x A8 lo hi nd 7 2;split
      ·rw[m1,m2];exact⟨by omega,by omega⟩
      ·have:=A0j A8 ks (x.made A8 lo hi nd 7 2).2.1 (x.made A8 lo hi nd 7 2).1;rw[m1,m2]at this;omega
     ·split
      ·obtain⟨m1,m2⟩:=Ol x A8 lo hi nd 8 1;split
       ·rw[m1,m2];exact⟨by omega,by omega⟩
       ·have:=A0j A8 ks ((x.made A8 lo hi nd 8 1).2.1++[(x.made A8 lo hi nd 8 1).2.2.1]) (x.made A8 lo hi nd 8 1).1;rw[m1,m2]at this;omega
      ·unfold PS.agree;simp only;omega
theorem A0j(A8:Nat):∀(ps:List F5)(ns:List Nat)(x:PS),(Dk A8 ps ns x).1.names.length<=x.names.length+(ps.map F5.size).sum/\(Dk A8 ps ns x).1.nodes.length<=x.nodes.length+(ps.map F5.size).sum
 |[],ns,x=>by rw[Dk];simp
 |p::ps,ns,x=>by
   have a:=A0k A8 p (ns.headD 0) x;have c:=A0j A8 ps ns.tail (BA A8 p (ns.headD 0) x).1;rw[Dk,zuq,zMq];split
   ·omega
   ·omega
end
section
variable {b i A8 x j1 j2:Nat}
def B5N(l:List F5):O6 (.list 7 (l.map F5.D9))=some (iN l.length):=by simp[iN]
def B5K{l:List F5}{j:Nat}(h:j<l.length):O0 7 (.list 7 (l.map F5.D9)) (iN j)=some l[j].D9:=V8 h
theorem A9C(A8:Nat)(p:F5)(nd:Nat)(x:PS):BA A8 p nd x =
 if p.E8=1 then(x,0)
 else if p.E8=2 then({ x with names:=x.names++[p.name],nodes:=x.nodes++[nd] },0)
 else if p.E8=7 then
  if (x.made A8 p.lo p.hi nd 7 2).2.2.2≠0 then((x.made A8 p.lo p.hi nd 7 2).1,(x.made A8 p.lo p.hi nd 7 2).2.2.2)else Dk A8 p.D5 (x.made A8 p.lo p.hi nd 7 2).2.1 (x.made A8 p.lo p.hi nd 7 2).1
 else if p.E8=8\/p.E8=9 then
  if (x.made A8 p.lo p.hi nd 8 1).2.2.2≠0\/p.E8=8 then((x.made A8 p.lo p.hi nd 8 1).1,(x.made A8 p.lo p.hi nd 8 1).2.2.2)else Dk A8 p.D5 ((x.made A8 p.lo p.hi nd 8 1).2.1++[(x.made A8 p.lo p.hi nd 8 1).2.2.1]) (x.made A8 p.lo p.hi nd 8 1).1
 else x.agree p.lo p.hi nd (p.E8-3).toNat:=by cases p;rw[BA];rfl
def B86(A:A5o b i x j1 j2)(hl:A8<2 ^ 31)(p:F5):p.pat=true->p.size<2 ^ 30->∀(nd:Nat)(P:PS)(sg:List E5),qH b i A8 x j1 j2 P sg->P.s.Ok->nd<P.s.l.length->P.names.length+p.size<2 ^ 31->P.nodes.length+p.size<2 ^ 31->(BA A8 p nd P).1.s.J8+10<2 ^ 62->
 A5n b i A8 x j1 j2 sg (C9.r IC [(.undef,.ptr x 0),(p.D9,.val),(iN nd,.val)] sg) [iN (BA A8 p nd P).2] (BA A8 p nd P).1:=by
 induction p using F5.ind with
 |h p ih=>
   intro hp hz nd P sg h ok hn f1 f2 hr;have qg:=hp;rw[F5.lK,zQq,List.all_eq_true]at qg;obtain⟨ZK,hp2⟩:=qg;obtain⟨KV,WQ⟩:=F5.ww ZK;have Cz:=F5.size_eq p;have start:=(xP x p.D9 (iN nd) sg).trans (zW _ _ _ _ _);have n0:∀k,D7 .neq (iN k) (iI 0)=some (.bool (!decide (k=0))):=λk=>YS k 0;simp only[LQ,F8,F5.CK,BG,I7,F3,I6]at start;have key:p.D5.length<=2->∀(q j:Nat)(ns:List Nat)(P:PS)(sg:List E5),j+q=p.D5.length->ns.length=p.D5.length->(∀n∈ns,n<P.s.l.length)->qH b i A8 x j1 j2 P sg->P.s.Ok->P.names.length+((p.D5.drop j).map F5.size).sum<2 ^ 31->P.nodes.length+((p.D5.drop j).map F5.size).sum<2 ^ 31->(Dk A8 (p.D5.drop j) (ns.drop j) P).1.s.J8+10<2 ^ 62->
    A5n b i A8 x j1 j2 sg (KI C9 x (.list 1 (ns.map iN)) (.list 7 (p.D5.map F5.D9)) (iN p.D5.length) (iN j) sg) [iN (Dk A8 (p.D5.drop j) (ns.drop j) P).2] (Dk A8 (p.D5.drop j) (ns.drop j) P).1:=by
    intro B77 q;induction q with
    |zero=>intro j ns P sg hj kX fG h ok _ _ _;rw[Uq,z8q (by omega),Dk];simp only[Ac,I7,F3,I6];rw[A7 (by omega)];exact⟨sg,rfl,h,Kx.refl _⟩
    |succ q ihq=>
      intro j ns P sg hj kX fG h ok g1 g2 hr;have O9:j<p.D5.length:=by omega
      have FT:j<ns.length:=by omega
      have hm:=z3q O9;have ps:=F5.CG hm;rw[z4q O9,zuq,zMq]at g1 g2;rw[z4q O9,z4q FT,lJ]at hr ⊢;have hnj:=fG _ (z3q FT);have G:=NN hl p.D5[j] ns[j] P ok hnj (hp2 _ hm);have L:=A0k A8 p.D5[j] ns[j] P;have start:=Uq C9 x (.list 1 (ns.map iN)) (.list 7 (p.D5.map F5.D9)) (iN p.D5.length) (iN j) sg;simp only[Ac,I7,F3,O9,J9,F6,B5K O9,IL FT,Ba,F8,F5.pj,F5.AA,F5.ag]at start;by_cases e0:(BA A8 p.D5[j] ns[j] P).2=0
      ·rw[A7 (λh=>h e0)]at hr ⊢;have GL:=La hl (p.D5.drop (j+1)) (ns.drop (j+1)) _ G.ok (by simp only[yiq];omega) (λn hn=>z6q (fG n (ydq hn)) G.ext.le) λw hw=>hp2 w (ydq hw);have rr:=GL.ext.J8;obtain⟨K4,e1,a1,k1⟩:=ih _ hm (hp2 _ hm) (by omega) ns[j] P sg h ok hnj (by omega) (by omega) (by omega);obtain⟨sg2,e2,a2,k2⟩:=ihq (j+1) ns _ K4 (by omega) kX (λn hn=>z6q (fG n hn) G.ext.le) a1 G.ok (by omega) (by omega) hr;refine⟨sg2,?_,a2,k1.trans k2⟩;rw[start,e1];simp only[I7,z1q,e0,n0,J9,z5q,F3,z0q,G9,addN (show j<2 ^ 62 by omega)]
       exact e2
      ·rw[A9 e0]at hr ⊢;obtain⟨K4,e1,a1,k1⟩:=ih _ hm (hp2 _ hm) (by omega) ns[j] P sg h ok hnj (by omega) (by omega) hr;refine⟨K4,?_,a1,k1⟩;rw[start,e1];simp only[I7,z1q,n0,e0,T9,z9q,F3,F6]
   have twenty:p.D5.length<=2->∀(ns:List Nat)(P:PS)(sg:List E5),ns.length=p.D5.length->(∀n∈ns,n<P.s.l.length)->qH b i A8 x j1 j2 P sg->P.s.Ok->P.names.length+(p.D5.map F5.size).sum<2 ^ 31->P.nodes.length+(p.D5.map F5.size).sum<2 ^ 31->(Dk A8 p.D5 ns P).1.s.J8+10<2 ^ 62->
    A5n b i A8 x j1 j2 sg (Ky C9 x (.list 1 (ns.map iN)) p.D9 sg) [iN (Dk A8 p.D5 ns P).2] (Dk A8 p.D5 ns P).1:=by
    intro B77 ns P sg g1 g2 g3 g4 g5 g6 g7;obtain⟨K4,e1,a1,k1⟩:=key B77 p.D5.length 0 ns P sg (by omega) g1 g2 g3 g4 (by rw[zcq];exact g5) (by rw[zcq];exact g6) (by rw[zcq,zcq];exact g7);rw[zcq,zcq]at e1 a1;refine⟨K4,?_,a1,k1⟩;rw[rO,F5.oh,B5N,I7];exact e1
   rw[A9C]at hr ⊢;by_cases c1:p.E8=1
   ·rw[A9 c1]at start ⊢;exact⟨sg,start,h,Kx.refl _⟩
   rw[A7 c1]at start hr ⊢;by_cases c2:p.E8=2
   ·rw[A9 c2]at start ⊢;obtain⟨n1,n2,d1,d2,d3⟩:=h.box;have cg1:Qw (Vh b A8 j1 n1 j2 n2 P) 2 1=some (.list 1 (P.names.map DV.str),j1,n1):=rfl;have cg2:Qw (Vh b A8 j1 n1 j2 n2 P) 3 1=some (.list 1 (P.nodes.map iN),j2,n2):=rfl;have ga1:=A2E (d:=.str p.name) (ds:=P.names.map DV.str) (by rw[zbq];exact d2) (by rw[zbq];omega);have lx:=CY d1;have l1:=(z7q.1 d2).1;have l2:=(z7q.1 d3).1;have x1:(sg.set j1 (E5.U0 (n1+1) 1 (P.names.length+1)))[x]?=sg[x]?:=z2q A.y1.2.2;have ga2:=A2E (sg:=sg.set j1 (.U0 (n1+1) 1 (P.names.length+1))) (j:=j2) (n:=n2) (d:=iN nd) (ds:=P.nodes.map iN) (by rw[zbq,z2q (Ne.symm A.y2.2.2.2)];exact d3) (by rw[zbq];omega);rw[zbq]at ga1 ga2;have oe:∀{β : Type}(y:Option β),Mv True y=y:=λy=>by unfold Mv;rw[A9 trivial]
    have b1:H5 (sg.set j1 (E5.U0 (n1+1) 1 (P.names.length+1))) x=some (Vh b A8 j1 n1 j2 n2 P):=by rw[Jy x1];exact d1
    have b2:H5 ((sg.set j1 (E5.U0 (n1+1) 1 (P.names.length+1))).set j2 (.U0 (n2+1) 1 (P.nodes.length+1))) x=some (Vh b A8 j1 n1 j2 n2 P):=by rw[Cv A.y2.2.2.1];exact b1
    have i2:(Vh b A8 j1 n1 j2 n2 P)[2]?=some (.list 1 (P.names.map DV.str),.U0 j1 n1 1):=rfl
    let cs1:=(Vh b A8 j1 n1 j2 n2 P).set 2 (.list 1 (P.names.map DV.str++[.str p.name]),.U0 j1 (n1+1) 1)
    have b3:H5 (((sg.set j1 (E5.U0 (n1+1) 1 (P.names.length+1))).set j2 (.U0 (n2+1) 1 (P.nodes.length+1))).set x (.box cs1)) x=some cs1:=Bg (by simpa using lx) _;have i3:cs1[3]?=some (.list 1 (P.nodes.map iN),.U0 j2 n2 1):=rfl
    let P':PS:={ P with names:=P.names++[p.name],nodes:=P.nodes++[nd] }
    have e4:cs1.set 3 (.list 1 (P.nodes.map iN++[iN nd]),.U0 j2 (n2+1) 1)=Vh b A8 j1 (n1+1) j2 (n2+1) P':=by simp[cs1,Vh,P']
    have b3':H5 (((sg.set j1 (E5.U0 (n1+1) 1 (P.names.length+1))).set j2 (.U0 (n2+1) 1 (P.nodes.length+1))).set x (.box ((Vh b A8 j1 n1 j2 n2 P).set 2 (.list 1 (P.names.map DV.str++[.str p.name]),.U0 j1 (n1+1) 1)))) x=some cs1:=b3;simp only[d1,I7,cg1,F5.MO,VT,F8,ga1,b1,cg2,x1,oe,P5,ga2,b2,i2,b3',i3,e4]at start;refine⟨_,start,⟨?_,n1+1,n2+1,Bg (by simpa using lx) _,?_,?_⟩,?_⟩
    ·refine h.st.mono ?_ ?_
     ·rw[z2q A.xx.1,z2q A.xx.1,z2q A.y2.1,z2q A.y1.1]
     ·rw[z2q A.xx.2,z2q A.xx.2,z2q A.y2.2.1,z2q A.y1.2.1]
    ·rw[z2q (Ne.symm A.y1.2.2),z2q (Ne.symm A.y1.2.2),z2q A.y2.2.2.2,zEq l1];simp
    ·rw[z2q (Ne.symm A.y2.2.2.1),z2q (Ne.symm A.y2.2.2.1),zEq (by simpa using l2)];simp
    ·exact((Kx.set1 sg _ (by simp)).trans (Kx.set1 _ _ (by simp))).trans ((Kx.set1 _ _ (by simp)).trans (Kx.set1 _ _ (by simp)))
   rw[A7 c2]at start hr ⊢;by_cases c7:p.E8=7
   ·rw[A9 c7]at start hr ⊢;have qx:DV.agg [iI p.E8,C8 1 p.D9,C8 2 p.D9,C8 3 p.D9,C8 4 p.D9,C8 5 p.D9,C8 6 p.D9]=p.D9:=by simp[F5.AA,F5.ag]
    obtain⟨m1,m2,m3,m4⟩:=FY (x:=P) ok hl (lo:=p.lo) (hi:=p.hi) (n:=nd) (k:=7) (many:=2) (.inl ⟨rfl,rfl⟩) hn;obtain⟨mn1,mn2⟩:=Ol P A8 p.lo p.hi nd 7 2;by_cases g:(P.made A8 p.lo p.hi nd 7 2).2.2.2=0
    ·rw[A7 (λh=>h g)]at hr ⊢;have kl:=m4 g;have GL:=La hl p.D5 (P.made A8 p.lo p.hi nd 7 2).2.1 _ m1.ok (by rw[kl,KV (.inl c7)];exact zgq _) m2 hp2;have rr:=GL.ext.J8;obtain⟨K4,e1,a1,k1⟩:=pX h A ok hl p (k:=7) (many:=2) (.inl ⟨rfl,rfl⟩) hn (by omega);have Im:C9.r CV [(.undef,.ptr x 0),(p.D9,.val),(iN nd,.val),(iI 7,.val),(iI 2,.val)] sg=_:=e1;simp only[F5.AA,F5.ag,qx,Im,I7,jP,jQ,jR,g,n0,J9,z5q,F3,z0q,G9]at start;obtain⟨sg2,e2,a2,k2⟩:=twenty (by rw[KV (.inl c7)];exact zgq _) _ _ K4 (by rw[kl,KV (.inl c7)]) m2 a1 m1.ok (by rw[mn1];omega) (by rw[mn2];omega) hr;exact⟨sg2,start.trans e2,a2,k1.trans k2⟩
    ·rw[A9 g]at hr ⊢;obtain⟨K4,e1,a1,k1⟩:=pX h A ok hl p (k:=7) (many:=2) (.inl ⟨rfl,rfl⟩) hn hr;have Im:C9.r CV [(.undef,.ptr x 0),(p.D9,.val),(iN nd,.val),(iI 7,.val),(iI 2,.val)] sg=_:=e1;simp only[F5.AA,F5.ag,qx,Im,I7,jP,jQ,jR,n0,g,T9,z9q,F3,F6]at start;exact⟨K4,start,a1,k1⟩
   rw[A7 c7]at start hr ⊢;by_cases c89:p.E8=8\/p.E8=9
   ·have start:C9.r IC [(.undef,.ptr x 0),(p.D9,.val),(iN nd,.val)] sg=Kw C9 x (iN nd) p.D9 sg:=by
     rw[start];split
     ·rfl
     ·rw[A9 (by omega)]
    rw[A9 c89]at hr ⊢;rw[rJ]at start;obtain⟨m1,m2,m3,m4⟩:=FY (x:=P) ok hl (lo:=p.lo) (hi:=p.hi) (n:=nd) (k:=8) (many:=1) (.inr ⟨rfl,rfl⟩) hn;obtain⟨mn1,mn2⟩:=Ol P A8 p.lo p.hi nd 8 1;have qx:=A7d p;by_cases g:(P.made A8 p.lo p.hi nd 8 1).2.2.2≠0\/p.E8=8
    ·rw[A9 g]at hr ⊢;obtain⟨K4,e1,a1,k1⟩:=pX h A ok hl p (k:=8) (many:=1) (.inr ⟨rfl,rfl⟩) hn hr;have Im:C9.r CV [(.undef,.ptr x 0),(p.D9,.val),(iN nd,.val),(iI 8,.val),(iI 1,.val)] sg=_:=e1;simp only[qx]at start;simp only[Im,I7,jP,jQ,jR,n0,Q3,F5.CK,BG,F3,I6]at start;refine⟨K4,start.trans ?_,a1,k1⟩;by_cases g0:(P.made A8 p.lo p.hi nd 8 1).2.2.2=0
     ·have k8:p.E8=8:=by rcases g with g | g;exact absurd g0 g;exact g
      simp[g0,k8]
     ·simp[g0]
    ·rw[A7 g]at hr ⊢;have g0:(P.made A8 p.lo p.hi nd 8 1).2.2.2=0:=Classical.not_not.1 λh=>g (.inl h);have k8:p.E8≠8:=λh=>g (.inr h);have k9:p.E8=9:=by omega
     have kl:=m4 g0;have ml:∀n∈(P.made A8 p.lo p.hi nd 8 1).2.1++[(P.made A8 p.lo p.hi nd 8 1).2.2.1],n<(P.made A8 p.lo p.hi nd 8 1).1.s.l.length:=by
      intro n hn;rcases znq.1 hn with hn | hn
      ·exact m2 n hn
      ·rw[ziq.1 hn];exact m3
     have GL:=La hl p.D5 _ _ m1.ok (by rw[zlq,kl,KV (.inr k9)];exact zgq _) ml hp2;have rr:=GL.ext.J8;obtain⟨K4,e1,a1,k1⟩:=pX h A ok hl p (k:=8) (many:=1) (.inr ⟨rfl,rfl⟩) hn (by omega);have Im:C9.r CV [(.undef,.ptr x 0),(p.D9,.val),(iN nd,.val),(iI 8,.val),(iI 1,.val)] sg=_:=e1;simp only[qx]at start;simp only[Im,I7,jP,jQ,jR,g0,n0,J9,z5q,Q3,z0q,G9,F5.CK,BG,F3,k8,T9,P5,F8,zP (show(P.made A8 p.lo p.hi nd 8 1).2.1.length<2 ^ 31 by omega)]at start;obtain⟨sg2,e2,a2,k2⟩:=twenty (by rw[KV (.inr k9)];exact zgq _) _ _ K4 (by rw[zlq,kl,KV (.inr k9)];rfl) ml a1 m1.ok (by rw[mn1];omega) (by rw[mn2];omega) hr;exact⟨sg2,start.trans e2,a2,k1.trans k2⟩
   ·rw[A7 (λh=>c89 (.inl h)),A7 (λh=>c89 (.inr h))]at start;rw[A7 c89]at hr ⊢;have sb:D7 .sub (iI (p.E8-2)) (iI 1)=some (iN (p.E8-3).toNat):=by
     rw[Jo,Gq (by omega) (by omega)];simp only[iN]
     congr 2;omega
    have f5:=ok.five;obtain⟨K4,e1,a1,k1⟩:=A4b h A ok p (m:=nd) (n:=(p.E8-3).toNat) hn (by omega) hr;have qx:DV.agg [iI p.E8,C8 1 p.D9,C8 2 p.D9,C8 3 p.D9,C8 4 p.D9,C8 5 p.D9,C8 6 p.D9]=p.D9:=by simp[F5.AA,F5.ag]
    simp only[B7i (show 3<=p.E8 by omega) (show p.E8<=6 by omega),I7,sb,F5.AA,F5.ag,qx,e1,z1q]at start;exact⟨K4,start,a1,k1⟩
end
noncomputable def XW(S:E9)(A8:Nat)(p:F5)(v:Nat):PS×Nat:=BA A8 p v ⟨S,[],[],P7⟩
theorem B69{b i A8 v:Nat}{S:E9}{sg:List E5}(h:Y7 b i S sg)(ok:S.Ok)(hl:A8<2 ^ 31){p:F5}(hp:p.right=true)(YM:p.thin=true)(hx:p.txt)(hz:p.size<2 ^ 30)(hv:v<S.l.length)(hr:(XW S A8 p v).1.s.J8+10<2 ^ 62):
 Xu b i sg (C9.r gP [(.undef,.ptr b 0),(p.D9,.val),(iN v,.val),(iN A8,.val)] sg)
  (if (XW S A8 p v).2≠0 then[.list 1 [],.list 1 [],(XW S A8 p v).1.bad.D9,iN (XW S A8 p v).2]else[.list 1 ((XW S A8 p v).1.names.map DV.str),.list 1 ((XW S A8 p v).1.nodes.map iN),P7.D9,iN 0]) (XW S A8 p v).1.s:=by
 have hpp:p.pat=true:=by unfold F5.right at hp;rw[zQq]at hp;exact hp.1
 have yc:=h.lt
 let k:=sg.length
 let P0:PS:=⟨S,[],[],P7⟩
 let K4:=sg++[.box (Vh b A8 (k+1) 1 (k+2) 1 P0),.U0 1 1 0,.U0 1 1 0]
 have A:A5o b i k (k+1) (k+2):=by constructor<;>omega
 have P1:qH b i A8 k (k+1) (k+2) P0 K4:=⟨h.app _,1,1,by simp[K4,k,H5],by simp[K4,k,zoq];rfl,by simp[K4,k,zoq];rfl⟩;obtain⟨sg2,e2,a2,k2⟩:=B86 A hl p hpp hz v P0 K4 P1 ok hv (by simp only[P0,zeq];omega) (by simp only[P0,zeq];omega) hr;have start:=(A4E b p.D9 (iN v) (iN A8) sg).trans (A5N _ _ _ _ _ _);have qx:=A7d p;have gi:QR (sg++[E5.box ((.undef,(.ptr b 0))::(iN A8,.val)::((.list 1 []),.full)::((.list 1 []),.full)::(zz4 []))]) sg.length [2,3]=some K4:=by
  have b0:∀(c:List (DV×F4))(L:List E5),H5 (sg++E5.box c::L) sg.length=some c:=λc L=>by simp[H5]
  simp only[QR,b0,I7];simp only[zDq,zCq,ykq,F6];rw[zTq _ _ (zgq _),yaq,y3q,y6q,List.cons_append,zsq,b0,I7];simp only[List.set_cons_succ,y3q,zDq,zCq,ykq,F6];rw[zTq _ _ (zgq _),yaq,y3q];simp[K4,k,Vh,P0,GJ.cells,P7,iN];rfl
 simp only[qx]at start;simp only[LQ,F8,dI p YM hx,hp,F6,I7,Dz,J9,z5q,Q3,z0q,G9,OC h ok hv,z1q,uw,F3,P5,gi]at start;have e2':C9.r IC [(.undef,.ptr sg.length 0),(p.D9,.val),(iN v,.val)] K4=_:=e2;rw[e2']at start;obtain⟨m1,m2,d1,d2,d3⟩:=a2.box;have d1':H5 sg2 sg.length=_:=d1;have n0:∀k,D7 .neq (iN k) (iI 0)=some (.bool (!decide (k=0))):=λk=>YS k 0;have KK:Kp b i sg sg2:=⟨by have:=k2.le;simp only[K4,zlq]at this;omega,λj hj h1 h2=>(k2.eq j (by simp[K4];omega) (by simp;omega)).trans (zaq hj)⟩;have hi:BA A8 p v P0=XW S A8 p v:=rfl;rw[hi]at start d1' a2;simp only[I7,z1q,n0,F3,d1']at start;refine⟨sg2,start.trans ?_,a2.st,KK⟩;by_cases g:(XW S A8 p v).2=0
 ·simp only[g,J9,z5q,z0q,G9,ne_eq,not_true_eq_false]
  rfl
 ·simp only[g,T9,z9q,F6,ne_eq,not_false_eq_true]
  rfl
section
mutual
def DD.D9:DD->DV
 |.mk n ts vs ks=>.agg [iN n,.list 1 (ts.map iN),.list 1 (vs.map iN),.list 4 (DD.A5H ks)]
def DD.A5H:List DD->List DV
 |[]=>[]
 |k::ks=>DD.D9 k::DD.A5H ks
end
theorem A2h:∀ks:List DD,DD.A5H ks=ks.map DD.D9
 |[]=>by simp[DD.A5H]
 |k::ks=>by rw[DD.A5H,A2h ks];rfl
def EN.D9(x:EN):DV:=.agg [.str x.name,iN x.node,.list 1 (x.vars.map iN)]
variable (b:Nat)(w:W)
def q_:List (DV×F4):=(.undef,.ptr b 0)::(w.bad.cells++[(iN w.err,.val)])
structure KU(b i t:Nat)(w:W)(sg:List E5):Prop where
 st:Y7 b i w.s sg
 box:H5 sg t=some (q_ b w)
def Xx(m1 m2 m3:F4):List (DV×F4):=[(iN 0,.val),(.list 1 (w.types.map iN),m1),(.list 1 (w.vars.map iN),m2),(.list 4 (w.D5.map DD.D9),m3)]
variable (g:Bool)
def DAt(p j:Nat)(w:W)(sg:List E5):Prop:=∃m1 m2 m3,H5 sg p=some (Xx w m1 m2 m3)/\(if g=true then ∃n,m1=.U0 j n 1/\sg[j]?=some (.U0 n 1 w.types.length)else(∃n,m1=.U0 j n 1)\/m1=.full)/\(m2=.full\/m2=.val)/\(m3=.full\/m3=.own)
structure Fz(b i t p j:Nat):Prop where
 pp:p≠b/\p≠i/\p≠t
 jj:j≠b/\j≠i/\j≠t/\j≠p
structure BR(g:Bool)(b i t p j:Nat)(w:W)(sg:List E5):Prop where
 t:KU b i t w sg
 d:DAt g p j w sg
def UM(b i t p j:Nat)(sg:List E5)(r:Option (List DV×List E5))(ds:List DV)(w:W):Prop:=∃sg',r=some (ds,sg')/\BR g b i t p j w sg'/\Kx [b,i,t,p,j] sg sg'
def A0B(b i t p j:Nat)(sg:List E5)(r:Option (List DV×List E5))(ds:List DV)(w:W):Prop:=∃sg',r=some (ds,sg')/\BR g b i t p j w sg'/\Kx [b,i,t] sg sg'
section
variable {g:Bool}{b i t p j:Nat}{w:W}{sg:List E5}
def KU.ne(h:KU b i t w sg):t≠b/\t≠i:=by
 obtain⟨ms,v,a⟩:=h.st;have h1:=XI h.box;have h2:=XI a.box;have h3:=A0s a.P9;constructor
 ·intro e;rw[e,h2]at h1;simp only[D8,E5.box.injEq]at h1;have:=congrArg List.length h1;simp[q_,OW,GJ.cells]at this
 ·intro e;rw[e,h3]at h1;cases h1
def DAt.lt(h:DAt g p j w sg):p<sg.length:=by obtain⟨m1,m2,m3,a,-⟩:=h;exact CY a
variable {sg':List E5}
def DAt.kx{w':W}(h:DAt g p j w sg)(A:Fz b i t p j)(k:Kx [b,i,t] sg sg')(e1:w'.types=w.types)(e2:w'.vars=w.vars)(e3:w'.D5=w.D5):DAt g p j w' sg':=by
 have hp:sg'[p]?=sg[p]?:=k.eq p h.lt (by simp;exact A.pp);obtain⟨m1,m2,m3,a,c,d⟩:=h;refine⟨m1,m2,m3,?_,?_,d⟩
 ·rw[Jy hp,a];simp only[Xx,e1,e2,e3]
 ·cases g with
  |false=>simpa using c
  |true=>simp only[F6]at c ⊢;obtain⟨n,c1,c2⟩:=c;refine⟨n,c1,?_⟩;rw[k.eq j (z7q.1 c2).1 (by simp;exact⟨A.jj.1,A.jj.2.1,A.jj.2.2.1⟩),e1];exact c2
def ES(k:Kx [b,i,t] sg sg'):Kx [b,i,t,p,j] sg sg':=k.more (by intro x hx;simp only[zxq,zmq,or_false]at hx ⊢;omega)
def Kp.k3(k:Kp b i sg sg'):Kx [b,i,t] sg sg':=k.kx.more (by intro x hx;simp only[zxq,zmq,or_false]at hx ⊢;omega)
def KU.kp{S:E9}(h:KU b i t w sg)(k:Kp b i sg sg')(a:Y7 b i S sg'):KU b i t { w with s:=S } sg' :=⟨a,by rw[Jy (k.eq t (CY h.box) h.ne.1 h.ne.2)];exact h.box⟩
theorem B7r(b:Nat)(w:W):U6 (q_ b w) 7=some (iN w.err):=rfl
theorem Jj(b:Nat)(w:W):X8 (q_ b w) 0=some b:=rfl
def JS(h:KU b i t w sg):C9.r U1 [(.undef,.ptr t 0)] sg=some ([.bool (decide (w.err=0))],sg):=by refine(r_ _ _).trans ?_;rw[t_];simp only[h.box,I7,B7r,show(DV.int .i64 0)=iN 0 from rfl,PT]
variable (B:GJ)
def B7F:I5 6 B.D9=true/\C8 0 B.D9=.int .i64 B.lo/\C8 1 B.D9=.int .i64 B.hi/\C8 2 B.D9=iN B.why/\C8 3 B.D9=iN B.left/\C8 4 B.D9=iN B.right/\C8 5 B.D9=.str B.name:=⟨rfl,rfl,rfl,rfl,rfl,rfl,rfl⟩
def dG(h:KU b i t w sg)(e:Nat)(B:GJ):∃sg',C9.r S9 [(.undef,.ptr t 0),(iN e,.val),(B.D9,.val)] sg=some ([],sg')/\KU b i t (w.fails e B) sg'/\Kx [t] sg sg':=by
 have start:=(iJ t (iN e) B.D9 sg).trans (jZ _ _ _ _ _);have n0:∀k,D7 .neq (iN k) (iI 0)=some (.bool (!decide (k=0))):=λk=>YS k 0;have n7:∀k,D7 .neq (iN k) (iI 7)=some (.bool (!decide (k=7))):=λk=>YS k 7;have c7:(q_ b w)[7]?=some (iN w.err,.val):=rfl;obtain⟨b0,b1,b2,b3,b4,b5,b6⟩:=B7F B;simp only[b0,F8,JS h,I7,z1q,Q3,I6,n0,F3,h.box,P5,c7,n7]at start;have lt:=CY h.box;obtain⟨t1,t2⟩:=h.ne;unfold W.fails;by_cases g1:w.err=0
 ·by_cases g2:e=0
  ·rw[A7 (λh=>h.2 g2)];simp only[g1,g2,F6,J9,z5q,z0q,G9]at start;exact⟨sg,by rw[g2];exact start,h,Kx.refl _⟩
  ·rw[A9 ⟨g1,g2⟩];have s1:(q_ b w).set 7 (iN e,.val)=q_ b { w with err:=e }:=rfl;rw[A9 g1]at start;simp only[g2,T9,z9q,F6,s1,Bg lt,I7]at start;by_cases g3:e=7
   ·simp only[g3,J9,z5q,z0q,G9]at start;refine⟨_,by rw[g3];exact start,⟨h.st.mono (z2q t1) (z2q t2),?_⟩,Kx.set1 _ _ (by simp)⟩;rw[Bg lt];simp[q_,g3]
   ·have ln:(q_ b { w with err:=e }).length=8:=rfl;simp only[g3,T9,z9q,F6,ln]at start;rw[A9 (by omega)]at start;refine⟨_,start,⟨?_,?_⟩,(Kx.set1 _ _ (by simp)).trans (Kx.set1 _ _ (by simp))⟩
    ·exact h.st.mono (by rw[z2q t1,z2q t1]) (by rw[z2q t2,z2q t2])
    ·rw[Bg (by simpa using lt),b1,b2,b3,b4,b5,b6];simp[q_,g3,FC,GJ.cells]
 ·rw[A7 (λh=>g1 h.1)];rw[A7 g1]at start;exact⟨sg,start,h,Kx.refl _⟩
theorem UB:P7.D9=DV.agg (wH (J_ [])):=rfl
theorem after{S:E9}{K4:List E5}(h:BR g b i t p j w sg)(A:Fz b i t p j)(a:Y7 b i S K4)(k:Kp b i sg K4)(e:Nat)(B:GJ):
 ∃sg2,C9.r S9 [(.undef,.ptr t 0),(iN e,.val),(B.D9,.val)] K4=some ([],sg2)/\BR g b i t p j (({ w with s:=S }:W).fails e B) sg2/\Kx [b,i,t] sg sg2:=by
 obtain⟨sg2,e2,a2,k2⟩:=dG (h.t.kp k a) e B;have k3:Kx [b,i,t] sg sg2:=k.k3.trans (k2.more (by intro x hx;simp only[zxq,zmq,or_false]at hx ⊢;omega));refine⟨sg2,e2,⟨a2,h.d.kx A k3 ?_ ?_ ?_⟩,k3⟩<;>unfold W.fails<;>split<;>rfl
def OD(h:BR g b i t p j w sg)(A:Fz b i t p j)(ok:w.s.Ok)(A8:Nat):A0B g b i t p j sg (C9.r Z6 [(.undef,.ptr t 0),(iN A8,.val)] sg) [iN (w.fresh A8).2] (w.fresh A8).1:=by
 have start:=(iK t (iN A8) sg).trans (jc _ _ _ _);obtain⟨K4,e1,a1,k1⟩:=A7P h.t.st ok A8;obtain⟨sg2,e2,a2,k2⟩:=after h A a1 k1 (w.s.var A8).2.2 P7;simp only[JS h.t,I7,z1q,U2,F3,h.t.box,Jj,e1,Nc,Nf,<- UB,e2]at start;unfold W.fresh;by_cases g1:w.err=0
 ·rw[A7 (λh=>h g1)];simp only[g1,J9,z5q,z0q,G9]at start;exact⟨sg2,start,a2,k2⟩
 ·rw[A9 g1];simp only[g1,T9,z9q,F6]at start;exact⟨sg,start,h,Kx.refl _⟩
def XK(h:BR g b i t p j w sg)(A:Fz b i t p j)(ok:w.s.Ok){k x y:Nat}(hk:k=7\/k=8\/k=9)(hx:x<w.s.l.length)(hy:k≠8->y<w.s.l.length):A0B g b i t p j sg (C9.r BI [(.undef,.ptr t 0),(iN k,.val),(iN x,.val),(iN y,.val)] sg) [iN (w.made k x y).2] (w.made k x y).1:=by
 have start:=(kI t (iN k) (iN x) (iN y) sg).trans (mg _ _ _ _ _ _);obtain⟨K4,e1,a1,k1⟩:=A23 h.t.st ok hk hx hy;obtain⟨sg2,e2,a2,k2⟩:=after h A a1 k1 (w.s.make k x y).2.2 P7;simp only[JS h.t,I7,z1q,U2,F3,h.t.box,Jj,e1,Nc,Nf,<- UB,e2]at start;unfold W.made;by_cases g1:w.err=0
 ·rw[A7 (λh=>h g1)];simp only[g1,J9,z5q,z0q,G9]at start;exact⟨sg2,start,a2,k2⟩
 ·rw[A9 g1];simp only[g1,T9,z9q,F6]at start;exact⟨sg,start,h,Kx.refl _⟩
def A24(h:BR g b i t p j w sg)(A:Fz b i t p j)(ok:w.s.Ok){y:Ty}(ht:y.rc)(hz:y.size<2 ^ 40)(YM:y.thin=true):A0B g b i t p j sg (C9.r He [(.undef,.ptr t 0),(y.D9,.val)] sg) [iN (w.put y).2] (w.put y).1:=by
 have start:=(nP t y.D9 sg).trans (rG _ _ _ _);obtain⟨K4,e1,a1,k1⟩:=B83 h.t.st ok ht hz YM;obtain⟨sg2,e2,a2,k2⟩:=after h A a1 k1 (w.s.put y).2.2 P7;simp only[Az,F8,Ty.CK,Ty.FZ,Ty.Dl,Ty.AA,Ty.ag,JS h.t,I7,z1q,U2,F3,h.t.box,Jj,e1,Nc,Nf,<- UB,e2]at start;unfold W.put;by_cases g1:w.err=0
 ·rw[A7 (λh=>h g1)];simp only[g1,J9,z5q,z0q,G9]at start;exact⟨sg2,start,a2,k2⟩
 ·rw[A9 g1];simp only[g1,T9,z9q,F6]at start;exact⟨sg,start,h,Kx.refl _⟩
def DY(h:BR g b i t p j w sg)(A:Fz b i t p j)(ok:w.s.Ok){x y:Nat}(hx:x<w.s.l.length)(hy:y<w.s.l.length)(e:Ex)(hr:(w.agree x y e).s.J8+10<2 ^ 62):A0B g b i t p j sg (C9.r R9 [(.undef,.ptr t 0),(iN x,.val),(iN y,.val),(e.D9,.val)] sg) [] (w.agree x y e):=by
 have start:=(iH t (iN x) (iN y) e.D9 sg).trans (jY _ _ _ _ _ _);unfold W.agree at hr ⊢;by_cases g1:w.err=0
 ·rw[A7 (λh=>h g1)]at hr ⊢;rw[X9]at hr;obtain⟨K4,e1,a1,k1⟩:=A7M h.t.st ok hx hy hr;obtain⟨sg2,e2,a2,k2⟩:=after h A a1 k1 (w.s.agree x y).2.2.2 ⟨e.lo,e.hi,(w.s.agree x y).2.2.2,(w.s.agree x y).2.1,(w.s.agree x y).2.2.1,Y4⟩;have be:DV.agg [iI e.lo,iI e.hi,iN (w.s.agree x y).2.2.2,iN (w.s.agree x y).2.1,iN (w.s.agree x y).2.2.1,.str ⟨#[]⟩]=(⟨e.lo,e.hi,(w.s.agree x y).2.2.2,(w.s.agree x y).2.1,(w.s.agree x y).2.2.1,Y4⟩:GJ).D9:=rfl;simp only[AF,F8,JS h.t,I7,z1q,F3,g1,J9,F6,h.t.box,Jj,e1,jP,jQ,jR,P5,Ex.FZ,Ex.Dl,be,e2]at start;exact⟨sg2,start,a2,k2⟩
 ·rw[A9 g1];simp only[AF,F8,JS h.t,I7,z1q,F3,g1,T9,z0q,G9]at start;exact⟨sg,start,h,Kx.refl _⟩
def A90{q:W×Nat}(h:BR true b i t p j q.1 sg)(A:Fz b i t p j)(hl:q.1.types.length<2 ^ 30):
 ∃n c,H5 sg p=some c/\Qw c 1 1=some (.list 1 (q.1.types.map iN),j,n)/\Sb sg j n 1 (.list 1 (q.1.types.map iN)) (.list 1 [iN q.2])=some (.list 1 (q.1.types.map iN++[iN q.2]),sg.set j (.U0 (n+1) 1 (q.1.types.length+1))) /\
   H5 (sg.set j (.U0 (n+1) 1 (q.1.types.length+1))) p=some c/\(∃u,c[1]?=some u) /\
   BR true b i t p j (W.tell q).1 ((sg.set j (.U0 (n+1) 1 (q.1.types.length+1))).set p (.box (c.set 1 (.list 1 (q.1.types.map iN++[iN q.2]),.U0 j (n+1) 1)))):=by
 obtain⟨m1,m2,m3,a,c,d⟩:=h.d;simp only[F6]at c;obtain⟨n,rfl,c2⟩:=c;have lp:=CY a;have lj:=(z7q.1 c2).1;have ga:=A2E (d:=iN q.2) (ds:=q.1.types.map iN) (by rw[zbq];exact c2) (by rw[zbq];omega);rw[zbq]at ga;have ee:(Xx q.1 (.U0 j n 1) m2 m3).set 1 (.list 1 (q.1.types.map iN++[iN q.2]),.U0 j (n+1) 1)=Xx (W.tell q).1 (.U0 j (n+1) 1) m2 m3:=by simp[Xx,W.tell]
 refine⟨n,_,a,rfl,ga,by rw[Cv A.jj.2.2.2];exact a,⟨_,rfl⟩,⟨?_,?_⟩,.U0 j (n+1) 1,m2,m3,by rw[ee];exact Bg (by simpa using lp) _,?_,d⟩
 ·refine h.t.st.mono ?_ ?_
  ·rw[z2q A.pp.1,z2q A.jj.1]
  ·rw[z2q A.pp.2.1,z2q A.jj.2.1]
 ·rw[Cv A.pp.2.2,Cv A.jj.2.2.1];exact h.t.box
 ·simp only[F6]
  have e:(W.tell q).1.types.map iN=q.1.types.map iN++[iN q.2]:=by simp[W.tell]
  refine⟨n+1,rfl,?_⟩;rw[z2q (Ne.symm A.jj.2.2.2),zEq lj];simp[W.tell]
end
end
section
def B8q(l:List EN):O6 (.list 3 (l.map EN.D9))=some (iN l.length):=by simp[iN]
variable {l:List EN}
def C0t{j:Nat}(h:j<l.length):O0 3 (.list 3 (l.map EN.D9)) (iN j)=some l[j].D9:=V8 h
def A28(l k:List EN)(hl:l.length+k.length<2 ^ 31)(sg:List E5):C9.r DK [(.list 3 (l.map EN.D9),.val),(.list 3 (k.map EN.D9),.val)] sg=some ([.list 3 ((l++k).map EN.D9)],sg):=by
 refine(A2u _ _ _).trans ?_;rw[A4n];have s3:Zz 3 (.list 3 (l.map EN.D9)) none (iN l.length) (iN l.length)=some (.list 3 (l.map EN.D9)):=by simp only[Zz,iN,F6,OO,bnd,zbq,I7];rw[A9 (by omega),I7,A9 (by simp)];simp only[yfq,zcq];rw[zvq (by simp)]
 simp only[B8q,I7,s3];rw[JW (by simp[R6];omega),I7,ycq]
section
variable {g:Bool}{b i t p j:Nat}{w:W}{sg:List E5}
def A92{sg':List E5}{n m:Nat}{c:List (DV×F4)}:Kx [b,i,t,p,j] sg ((sg.set j (.U0 n 1 m)).set p (.box c)):=(Kx.set1 _ _ (by simp)).trans (Kx.set1 _ _ (by simp))
def A0u(h:BR true b i t p j w sg)(A:Fz b i t p j)(ok:w.s.Ok){y:Ty}(ht:y.E8≠0->y.rc)(hz:y.size<2 ^ 40)(YM:y.thin=true)(A8:Nat)(hl:w.types.length<2 ^ 30):
 UM true b i t p j sg (C9.r FJ [(.undef,.ptr t 0),(y.D9,.val),(iN A8,.val),(.undef,.ptr p 0)] sg) [iN (w.Y0 y A8).2] (w.Y0 y A8).1:=by
 have start:=(iO t y.D9 (iN A8) p sg).trans (jf _ _ _ _ _ _);simp only[Az,F8,Ty.CK,Ty.FZ,Ty.Dl,Ty.AA,Ty.ag,Dz,I7,F3]at start;unfold W.Y0;by_cases k:y.E8=0
 ·rw[A7 (λh=>h k)];obtain⟨K4,e1,a1,k1⟩:=OD h A ok A8;have tl:(w.fresh A8).1.types.length<2 ^ 30:=by
   have:(w.fresh A8).1.types=w.types:=by
    unfold W.fresh;split
    ·rfl
    ·rw[Sa]
   rw[this];exact hl
  obtain⟨n,c,x1,x2,x3,x4,⟨u,x5⟩,x6⟩:=A90 (q:=w.fresh A8) a1 A tl;simp only[k,J9,z5q,z0q,G9,e1,I7,z1q,x1,x2,P5,F8,x3,x4,x5]at start;exact⟨_,start,x6,(ES k1).trans (A92 (sg':=sg))⟩
 ·rw[A9 k];obtain⟨K4,e1,a1,k1⟩:=A24 h A ok (ht k) hz YM;simp only[k,T9,z9q,F6,e1,I7,z1q]at start;exact⟨K4,start,a1,ES k1⟩
def A7Q(h:BR g b i t p j w sg)(A:Fz b i t p j)(ok:w.s.Ok)(hr:w.s.J8+1<2 ^ 62){n:Nat}(hn:n<w.s.l.length)(A8:Nat):
 A0B g b i t p j sg (C9.r Iq [(.undef,.ptr t 0),(iN n,.val),(iN A8,.val)] sg) [.list 1 ((w.above n A8).2.map iN)] (w.above n A8).1:=by
 have start:=(iG t (iN n) (iN A8) sg).trans (jX _ _ _ _ _);obtain⟨K4,e1,a1,k1⟩:=A9T h.t.st ok hr hn;have T1:=h.t.kp k1 a1;simp only[h.t.box,I7,Jj,e1,z1q,TQ]at start;have hl:=ok.A2Y hn;have hvl:(w.s.vars n).length<2 ^ 31:=yeq (zUq ..) hl;have key:∀(q k:Nat)(o:List Nat),k+q=(w.s.vars n).length->o.length<=k->Dp C9 t (iN A8) (.list 1 (o.map iN)) (.list 1 ((w.s.vars n).map iN)) (iN (w.s.vars n).length) (iN k) K4=some ([.list 1 ((o++((w.s.vars n).drop k).filter λv=>decide (A8<w.s.U8 v)).map iN)],K4):=by
  intro q;induction q with
  |zero=>intro k o hk ho;rw[QI,z8q (by omega)];simp only[Ac,I7,F3,I6];rw[A7 (by omega),ylq,ymq]
  |succ q ih=>
    intro k o hk ho;have FU:k<(w.s.vars n).length:=by omega
    have hv:=ynq.1 (z3q FU);have hx:=ok.Lp hn hv.1;obtain⟨u,hu,hur,-⟩:=U9.sub (w.s.K5 n) n (ok.K5 hn) ((ok.DW hn).1 hv.1);have rr:w.s.root (w.s.vars n)[k]=(w.s.vars n)[k]:=by rw[hu.Hw,hur]
    have h6:w.s.F9 (w.s.vars n)[k]=6:=by simpa using hv.2
    have rt:w.s.tick.root (w.s.vars n)[k]=(w.s.vars n)[k]:=by rw[hu.tick.Hw,hur]
    have lv:=A37 T1.st ok.tick (show(w.s.vars n)[k]<w.s.tick.l.length from hx) (by rw[rt];exact h6);rw[rt]at lv;have ll:w.s.tick.U8 (w.s.vars n)[k]=w.s.U8 (w.s.vars n)[k]:=rfl;rw[QI,z4q FU,y7q];simp only[Ac,I7,F3,I6,A9 FU,IL FU,Ba,F8,T1.box,Jj,lv,z1q,ll,yV,P5,addN (show k<2 ^ 62 by omega)]
    by_cases hq:A8<w.s.U8 (w.s.vars n)[k]
    ·rw[A9 hq,zP (show o.length<2 ^ 31 by omega),I7,ih (k+1) _ (by omega) (by simp;omega),A9 hq,y6q];rfl
    ·rw[A7 hq,ih (k+1) _ (by omega) (by omega),A7 hq]
 have:=key (w.s.vars n).length 0 [] (by omega) (by simp);simp only[zGq,zsq,zcq]at this;exact⟨K4,start.trans this,⟨T1,h.d.kx A k1.k3 rfl rfl rfl⟩,k1.k3⟩
def en0(x:EN):C8 0 x.D9=.str x.name/\C8 1 x.D9=iN x.node/\C8 2 x.D9=.list 1 (x.vars.map iN):=⟨rfl,rfl,rfl⟩
def yU(w:W)(A8:Nat):(w.fresh A8).1.types=w.types:=by
 unfold W.fresh;split
 ·rfl
 ·rw[Sa]
def B2L{A8 len:Nat}(hl:A8<2 ^ 31)(FD:len<2 ^ 29)(A:Fz b i t p j)(x:DV):∀(q k:Nat)(w:W)(sg:List E5),k+q=len->j5 w->BR true b i t p j w sg->w.types.length<2 ^ 29+k->
 ∃sg',Co C9 t (iN A8) p (iN len) (iN k) x sg=Co C9 t (iN A8) p (iN len) (iN len) x sg'/\BR true b i t p j (W.many A8 q w) sg'/\Kx [b,i,t,p,j] sg sg':=by
 intro q;induction q with
 |zero=>intro k w sg hk I h ht;exact⟨sg,by rw[show k=len by omega],h,Kx.refl _⟩
 |succ q ih=>
   intro k w sg hk I h ht;have FU:k<len:=by omega
   obtain⟨K4,e1,a1,k1⟩:=OD h A I.ok A8;obtain⟨G1,G2⟩:=Ab I hl;obtain⟨G3,-⟩:=gI G1 G2;have tl:=yU w A8;obtain⟨n,c,x1,x2,x3,x4,⟨u,x5⟩,x6⟩:=A90 (q:=w.fresh A8) a1 A (by rw[tl];omega);obtain⟨sg2,y1,y2,y3⟩:=ih (k+1) _ _ (by omega) G3.i x6 (by simp only[W.tell,zlq,tl,zfq,zeq];omega);refine⟨sg2,?_,by rw[W.many];exact y2,((ES k1).trans (A92 (sg':=sg))).trans y3⟩;have qx:K4[p]?=sg[p]?:=k1.eq p h.d.lt (by simp;exact A.pp);have b0:H5 sg p=some c:=by rw[<- Jy qx];exact x1
   have oe:∀{β : Type}(y:Option β),Mv (K4[p]?=sg[p]?) y=y:=λy=>by unfold Mv;rw[A9 qx]
   rw[Rc];simp only[Ac,I7,F3,FU,J9,F6,b0,x2,e1,oe,z1q,P5,F8,x3,x4,x5,addN (show k<2 ^ 62 by omega)]
   exact y1
def B7m(h:BR true b i t p j w sg)(A:Fz b i t p j)(I:j5 w){e:Ex}{A8:Nat}(hl:A8<2 ^ 31)(hE:Z5 w.s.l.length l)(hll:l.length<2 ^ 31)(hv:∀x∈l,x.vars.length<2 ^ 29)(ht:w.types=[])(hr:(w.name e A8 l).1.s.J8+10<2 ^ 62):
 UM true b i t p j sg (C9.r KF [(.undef,.ptr t 0),(e.D9,.val),(iN A8,.val),(.list 3 (l.map EN.D9),.val),(.undef,.ptr p 0)] sg) [iN (w.name e A8 l).2] (w.name e A8 l).1:=by
 have st:C9.r KF [(.undef,.ptr t 0),(e.D9,.val),(iN A8,.val),(.list 3 (l.map EN.D9),.val),(.undef,.ptr p 0)] sg=Bi C9 t (iN A8) (.list 3 (l.map EN.D9)) p (iI ((l.length:Int)-1)) e.D9 sg:=by
  refine(kJ t e.D9 (iN A8) (.list 3 (l.map EN.D9)) p sg).trans ((mo _ _ _ _ _ _ _).trans ?_);have:D7 .sub (iN l.length) (iI 1)=some (iI ((l.length:Int)-1)):=by simp only[iN];rw[Jo,Gq (by omega) (by omega)]
  simp only[AF,F8,B8q,I7,this]
 have find:∀k,k<=l.length->match (l.take k).reverse.find? λx=>decide (x.name=e.name)with
  |none=>Bi C9 t (iN A8) (.list 3 (l.map EN.D9)) p (iI ((k:Int)-1)) e.D9 sg=Bi C9 t (iN A8) (.list 3 (l.map EN.D9)) p (iI (-1)) e.D9 sg
  |some x=>Bi C9 t (iN A8) (.list 3 (l.map EN.D9)) p (iI ((k:Int)-1)) e.D9 sg=(if x.vars.length=0 then some ([iN x.node],sg)else Co C9 t (iN A8) p (iN x.vars.length) (iN 0) x.D9 sg):=by
  intro k;induction k with
  |zero=>intro _;rfl
  |succ k ih=>
    intro hk;have FU:k<l.length:=by omega
    have ih:=ih (by omega);rw[zkq FU,List.reverse_append,List.reverse_singleton,y9q,List.find?_cons];have e1:((iI (((k+1:Nat):Int)-1)):DV)=iN k:=by simp only[iN];congr 1;omega
    have e2:D7 .sub (iN k) (iI 1)=some (iI ((k:Int)-1)):=by simp only[iN];rw[Jo,Gq (by omega) (by omega)]
    obtain⟨p0,p1,p2⟩:=en0 l[k];have start:=Rb C9 t (iN A8) (.list 3 (l.map EN.D9)) p (iN k) e.D9 sg;have g0:D7 .geq (iN k) (iN 0)=some (.bool true):=B0K k;simp only[B0K,g0,I7,F3,F6,C0t FU,p0,p1,p2,Ex.MO,Td,TQ,show(DV.int .i64 0)=iN 0 from rfl,PT,I6,e2]at start;by_cases hn:l[k].name=e.name
    ·simp only[hn,J9,z5q,z0q,G9]at start ⊢;rw[e1];exact start
    ·simp only[hn,T9,z9q,F6]at start ⊢;rw[e1,start];exact ih
 have hf:=find l.length (zgq _);rw[yhq]at hf;unfold W.name at hr ⊢;cases hx:l.reverse.find? λx=>decide (x.name=e.name)with
 |none=>rw[hx]at hf;simp only at hf ⊢;have start:=Rb C9 t (iN A8) (.list 3 (l.map EN.D9)) p (iI (-1)) e.D9 sg;obtain⟨K4,e1,a1,k1⟩:=dG h.t 6 ⟨e.lo,e.hi,6,0,0,e.name⟩;have be:DV.agg [iI e.lo,iI e.hi,iI 6,iI 0,iI 0,.str e.name]=(⟨e.lo,e.hi,6,0,0,e.name⟩:GJ).D9:=rfl;have Im:C9.r S9 [(.undef,.ptr t 0),(iI 6,.val),((⟨e.lo,e.hi,6,0,0,e.name⟩:GJ).D9,.val)] sg=_:=e1;have gm:D7 .geq (iI (-1)) (iI 0)=some (.bool false):=rfl;simp only[gm,I7,F3,z0q,G9,Ex.FZ,Ex.Dl,Ex.MO,VT,F8,be,Im]at start;have k3:Kx [b,i,t] sg K4:=k1.more (by intro x hx;simp only[zxq,zmq,or_false]at hx ⊢;omega);exact⟨K4,st.trans (hf.trans start),⟨a1,h.d.kx A k3 (by unfold W.fails;split<;>rfl) (by unfold W.fails;split<;>rfl) (by unfold W.fails;split<;>rfl)⟩,ES k3⟩
 |some x=>
   rw[hx]at hf hr;simp only at hf hr ⊢;have hxm:x∈l:=by simpa using List.mem_of_find?_eq_some hx
   obtain⟨q1,q2⟩:=hE x hxm;by_cases QW:x.vars=[]
   ·rw[A9 QW]at hr ⊢;rw[A9 (by rw[QW];rfl)]at hf;exact⟨sg,st.trans hf,h,Kx.refl _⟩
   ·rw[A7 QW]at hr ⊢;rw[A7 (λg=>QW (zRq.1 g))]at hf;obtain⟨K4,e1,a1,k1⟩:=B2L hl (hv x hxm) A x.D9 x.vars.length 0 w sg (by omega) I h (by rw[ht];simp);have G:=uy hl x.vars.length I;have mt:=Q_ (A8:=A8) x.vars.length w;generalize W.many A8 x.vars.length w=w1 at a1 G mt hr ⊢;rw[ht,zeq,zPq]at mt;have start:=Rc C9 t (iN A8) p (iN x.vars.length) (iN x.vars.length) x.D9 K4;obtain⟨p0,p1,p2⟩:=en0 x;obtain⟨m1,m2,m3,d1,d2,d3⟩:=a1.d;have cd:U6 (Xx w1 m1 m2 m3) 1=some (.list 1 (w1.types.map iN)):=by simp only[F6]at d2;obtain⟨n,rfl,-⟩:=d2;rfl
    simp only[Ac,ztq,T9,I7,F3,z0q,G9,JS a1.t,z1q,U2,a1.t.box,Jj,d1,cd,p1,p2]at start;by_cases g1:w1.err=0
    ·rw[A7 (λh=>h g1)]at hr ⊢;have C:=aZ G.i.ok (z6q q1 G.ext.le) (from_:=x.vars) (to:=w1.types) (by omega) G.i.ty;rw[X9]at hr;have rr:=C.2.1.J8;have hr:(w1.s.copy x.node x.vars w1.types).1.J8+10<2 ^ 62:=hr;have hvx:=hv x hxm;obtain⟨sg2,e2,a2,k2⟩:=B68 a1.t.st G.i.ok (by omega) (z6q q1 G.ext.le) (from_:=x.vars) (to:=w1.types) (λf hf=>z6q (q2 f hf) G.ext.le) G.i.ty (by omega) (by omega);obtain⟨dD,e3,a3,k3⟩:=after a1 A a2 k2 (w1.s.copy x.node x.vars w1.types).2.2 P7;simp only[g1,J9,z5q,z0q,G9,e2,I7,Nc,Nf,<- UB,e3]at start;exact⟨dD,st.trans (hf.trans (e1.trans start)),a3,k1.trans (ES k3)⟩
    ·rw[A9 g1];simp only[g1,T9,z9q,F6]at start;exact⟨K4,st.trans (hf.trans (e1.trans start)),a1,k1⟩
end
end
def EV(l:List EN):Prop:=∀x∈l,x.vars.length<2 ^ 29
def EV.app{l k:List EN}(h:EV l)(g:EV k):EV (l++k):=λx hx=>by
 rcases znq.1 hx with hx | hx
 ·exact h x hx
 ·exact g x hx
def EV.one{s:ByteArray}{m:Nat}:EV [⟨s,m,[]⟩]:=λx hx=>by rw[ziq.1 hx];simp
def RSp(b i t:Nat)(R:Rec)(e:Ex):Prop:=∀(A8:Nat)(l:List EN)(w:W)(sg:List E5),A8+e.size<2 ^ 30->l.length+2 * e.V9<2 ^ 30->j5 w->Z5 w.s.l.length l->EV l->KU b i t w sg->(R e A8 l w).1.s.J8+10<2 ^ 62->∃sg',C9.r Bt [(.undef,.ptr t 0),(e.D9,.val),(iN A8,.val),(.list 3 (l.map EN.D9),.val)] sg=some ([iN (R e A8 l w).2.1,(R e A8 l w).2.2.D9],sg')/\KU b i t (R e A8 l w).1 sg'/\Kx [b,i,t] sg sg'
structure Px(b i t:Nat)(R:Rec)(A8 n:Nat)(k:Ex):Prop where
 good:Cw R k
 sp:RSp b i t R k
 sz:A8+k.size<2 ^ 30
 ms:n+2 * k.V9<2 ^ 30
def Px.le{b i t:Nat}{R:Rec}{A8 lev' n n':Nat}{k:Ex}(h:Px b i t R A8 n k)(h1:lev'<=A8)(h2:n'<=n):Px b i t R lev' n' k:=⟨h.good,h.sp,by have:=h.sz;omega,by have:=h.ms;omega⟩
def DD.N8(d:DD):∃a c e f,d.D9=.agg [a,c,e,f]:=by cases d;rw[DD.D9];exact⟨_,_,_,_,rfl⟩
def wR(d:DD):DV.agg [C8 0 d.D9,C8 1 d.D9,C8 2 d.D9,C8 3 d.D9]=d.D9/\I5 4 d.D9=true:=by obtain⟨a,c,e,f,h⟩:=DD.N8 d;rw[h];exact⟨rfl,rfl⟩
def VS{e:Ex}{j:Nat}(h:j<e.D5.length):O0 16 (C8 15 e.D9) (iN j)=some (e.kd j).D9:=by rw[Ex.A7f,<- Ex.ku h];exact V8 h
section
variable {b i t p j:Nat}
def Fh{g:Bool}{w:W}{sg:List E5}{R:Rec}{e:Ex}{idx A8:Nat}{l:List EN}(A:Fz b i t p j)(h:BR g b i t p j w sg)(I:j5 w)(hi:idx<e.D5.length)(K:Px b i t R A8 l.length (e.kd idx))(hE:Z5 w.s.l.length l)(hV:EV l)(Ho:w.D5.length<2 ^ 30)(hr:(J2 R w (e.kd idx) A8 l).1.s.J8+10<2 ^ 62):
 UM g b i t p j sg (C9.r O7 [(.undef,.ptr t 0),(e.D9,.val),(iN idx,.val),(iN A8,.val),(.list 3 (l.map EN.D9),.val),(.undef,.ptr p 0)] sg) [iN (J2 R w (e.kd idx) A8 l).2] (J2 R w (e.kd idx) A8 l).1:=by
 have start:=(nN t e.D9 (iN idx) (iN A8) (.list 3 (l.map EN.D9)) p sg).trans (rE _ _ _ _ _ _ _ _);simp only[AF,F8,JS h.t,I7,z1q,U2,F3,VS hi,NJ]at start;unfold J2 at hr ⊢;by_cases g1:w.err=0
 ·rw[A7 (λh=>h g1)]at hr ⊢;obtain⟨K4,e1,a1,k1⟩:=K.sp A8 l w sg K.sz K.ms I hE hV h.t hr;obtain⟨x1,x2⟩:=wR (R (e.kd idx) A8 l w).2.2;simp only[g1,J9,z5q,z0q,G9,e1,I7,Nc,Nf,x1,x2,F8]at start;obtain⟨m1,m2,m3,c1,c2,c3,c4⟩:=h.d;have kp:K4[p]?=sg[p]?:=k1.eq p h.d.lt (by simp;exact A.pp);have d1:H5 K4 p=some (Xx w m1 m2 m3):=by rw[Jy kp];exact c1
  have lp:=CY d1;have co:wQ (Xx w m1 m2 m3) 3=some (.list 4 (w.D5.map DD.D9)):=by rcases c4 with rfl | rfl<;>rfl
  generalize R (e.kd idx) A8 l w=q at e1 a1 x1 x2 start ⊢
  let z:DV:=.agg (zz7 [])
  let ks:=w.D5.map DD.D9
  let k:=K4.length
  let v1:=Xx w m1 m2 .val
  have s1:(Xx w m1 m2 m3).set 3 (.list 4 ks,.val)=v1:=rfl;have ln:(w.D5.map DD.D9).length=w.D5.length:=zbq ..;have dl:O6 (.list 4 ks)=some (iN w.D5.length):=by simp[ks,iN]
  have ap:KJ 4 (.list 4 ks) (.list 4 [z])=some (ks,[z]):=by simp only[KJ,and_self,true_and,ks,zbq,zfq,zeq];rw[A9 ⟨by unfold R6;omega,by omega⟩]
  let T1:=K4.set p (.box v1)
  have T1l:T1.length=k:=by simp[T1,k]
  let T2:=T1++[E5.opn 4 ks [z]]
  have o2:Lc T2 T1.length=some (4,ks,[z]):=by simp[T2,Lc]
  have ai:l7 0 (ks.length+1) (iN w.D5.length)=some w.D5.length:=Jn (by simp[ks])
  let T3:=T2.set T1.length (.opn 4 ks [q.2.2.D9])
  have os:aG (4,ks,[z]) w.D5.length q.2.2.D9=some (.opn 4 ks [q.2.2.D9]):=by simp only[aG,ks,zbq,zfq,zeq,yaq];rw[A9 (by omega)];rfl
  have pk:p≠T1.length:=by rw[T1l];omega
  have b3:H5 T3 p=some v1:=by rw[Cv (Ne.symm pk)];simp only[T2];unfold H5;rw[zaq (by rw[T1l];exact lp)];exact Bg lp v1
  have v13:v1[3]?=some (.list 4 ks,.val):=rfl
  let v2:=v1.set 3 (.undef,.arr T1.length 4 0 (ks.length+1))
  let T4:=T3.set p (.box v2)
  have lp3:p<T3.length:=CY b3;have b4:H5 T4 p=some v2:=Bg lp3 v2;have ca:wP v2 3=some (T1.length,4,ks.length+1):=rfl;have lk3:T1.length<T2.length:=by simp[T2]
  have o4:Lc T4 T1.length=some (4,ks,[q.2.2.D9]):=by unfold Lc;rw[z2q pk,zEq lk3]
  have co2:TJ (4,ks,[q.2.2.D9]) 4 (ks.length+1)=some (.list 4 (ks++[q.2.2.D9])):=by simp only[TJ,zfq,zeq];rw[A9 ⟨trivial,trivial,Nat.succ_pos _⟩]
  simp only[d1,I7,co,dl,ap,zfq,zeq,zPq]at start;have s1':(Xx w m1 m2 m3).set 3 (.list 4 (w.D5.map DD.D9),.val)=v1:=rfl;have ap':KJ 4 (.list 4 (w.D5.map DD.D9)) (.list 4 [.agg (zz7 [])])=some (ks,[z]):=ap;have dl':O6 (.list 4 (w.D5.map DD.D9))=some (iN w.D5.length):=dl;simp only[s1',ap',dl',I7,zfq,zeq,zPq,ai]at start;have o2':Lc (K4.set p (.box v1)++[E5.opn 4 ks [z]]) (K4.set p (.box v1)).length=some (4,ks,[z]):=o2;simp only[o2',I7,beq_self_eq_true,Bool.and_self,F8,os]at start;have b3':H5 ((K4.set p (.box v1)++[E5.opn 4 ks [z]]).set (K4.set p (.box v1)).length (.opn 4 ks [q.2.2.D9])) p=some v1:=b3;simp only[b3',I7,v13]at start;have b4':H5 (((K4.set p (.box v1)++[E5.opn 4 ks [z]]).set (K4.set p (.box v1)).length (.opn 4 ks [q.2.2.D9])).set p (.box (v1.set 3 (.undef,.arr (K4.set p (.box v1)).length 4 0 (ks.length+1))))) p=some v2:=b4;have o4':Lc (((K4.set p (.box v1)++[E5.opn 4 ks [z]]).set (K4.set p (.box v1)).length (.opn 4 ks [q.2.2.D9])).set p (.box (v1.set 3 (.undef,.arr (K4.set p (.box v1)).length 4 0 (ks.length+1))))) T1.length=some (4,ks,[q.2.2.D9]):=o4;simp only[b4',I7,ca,o4',co2]at start
  let w':W:={ q.1 with types:=w.types,vars:=w.vars,D5:=w.D5++[q.2.2] }
  have fin:v2.set 3 (.list 4 (ks++[q.2.2.D9]),.own)=Xx w' m1 m2 .own:=by simp[v2,v1,Xx,ks,w']
  have old:∀x,x<K4.length->x≠p->((T4.set p (.box (v2.set 3 (.list 4 (ks++[q.2.2.D9]),.own)))).set T1.length (.arr 1 []))[x]?=K4[x]?:=by
   intro x hx hp;have hk:T1.length≠x:=by rw[T1l];omega
   rw[z2q hk,z2q (Ne.symm hp),z2q (Ne.symm hp),z2q hk];simp only[T2];rw[zaq (by rw[T1l];exact hx),z2q (Ne.symm hp)]
  have ltb:=a1.st.lt;have ltt:=CY a1.box;have fl:K4.length<=((T4.set p (.box (v2.set 3 (.list 4 (ks++[q.2.2.D9]),.own)))).set T1.length (.arr 1 [])).length:=by simp only[T4,T3,T2,T1,zLq,zlq];omega
  refine⟨_,start,⟨⟨?_,?_⟩,m1,m2,.own,?_,?_,c3,.inr rfl⟩,?_⟩
  ·exact a1.st.mono (old b ltb.1 (Ne.symm A.pp.1)) (old i ltb.2 (Ne.symm A.pp.2.1))
  ·rw[Jy (old t ltt (Ne.symm A.pp.2.2))];exact a1.box
  ·rw[<- fin,Cv (Ne.symm pk)];exact Bg (by have:=lp3;simp only[T3,T4,zLq]at this ⊢;exact this) _
  ·cases g with
   |false=>simpa using c2
   |true=>simp only[F6]at c2 ⊢;obtain⟨n,n1,n2⟩:=c2;have lj:=(z7q.1 n2).1;refine⟨n,n1,?_⟩;rw[old j (z6q lj k1.le) A.jj.2.2.2,k1.eq j lj (by simp;exact⟨A.jj.1,A.jj.2.1,A.jj.2.2.1⟩)];exact n2
  ·exact(ES k1).trans ⟨fl,λx hx hn=>old x hx λe=>hn (by rw[e];simp)⟩
 ·rw[A9 g1];simp only[g1,T9,z9q,F6]at start;exact⟨sg,start,h,Kx.refl _⟩
end
section
variable (w:W)
@[simp] theorem A2K(e:Nat)(B:GJ):(w.fails e B).D5=w.D5:=by unfold W.fails;split<;>rfl
variable (A8:Nat)
@[simp] def Tz:(w.fresh A8).1.D5=w.D5:=by unfold W.fresh;split<;>simp
@[simp] def kZ(k a b:Nat):(w.made k a b).1.D5=w.D5:=by unfold W.made;split<;>simp
@[simp] def B0Y(t:Ty):(w.put t).1.D5=w.D5:=by unfold W.put;split<;>simp
@[simp] def Gb(a b:Nat)(e:Ex):(w.agree a b e).D5=w.D5:=by unfold W.agree;split<;>simp
variable (l:List Nat)
@[simp] theorem ko:(w.Y1 l).D5=w.D5:=rfl
@[simp] theorem A1u:(w.RU l).D5=w.D5:=rfl
@[simp] def kg(t:Ty)(A8:Nat):(w.Y0 t A8).1.D5=w.D5:=by
  unfold W.Y0;split
  ·simp
  ·exact Tz w A8
@[simp] theorem wZ(n A8:Nat):(w.above n A8).1.D5=w.D5:=rfl
def TC(R:Rec)(w:W)(e:Ex)(A8:Nat)(l:List EN):(J2 R w e A8 l).1.D5.length<=w.D5.length+1:=by
 unfold J2;split
 ·simp only;omega
 ·simp
section
variable {b i t p j:Nat}{g:Bool}{w:W}{sg:List E5}{R:Rec}{e:Ex}{A8:Nat}{l:List EN}
def f_(h:BR g b i t p j w sg)(A:Fz b i t p j)(ns:List Nat):∃c u,H5 sg p=some c/\c[1]?=some u/\BR false b i t p j (w.Y1 ns) (sg.set p (.box (c.set 1 (.list 1 (ns.map iN),.full))))/\Kx [b,i,t,p,j] sg (sg.set p (.box (c.set 1 (.list 1 (ns.map iN),.full)))):=by
 obtain⟨m1,m2,m3,c1,c2,c3,c4⟩:=h.d;refine⟨_,_,c1,rfl,⟨⟨?_,?_⟩,.full,m2,m3,?_,?_,c3,c4⟩,Kx.set1 _ _ (by simp)⟩
 ·exact h.t.st.mono (z2q A.pp.1) (z2q A.pp.2.1)
 ·rw[Cv A.pp.2.2];exact h.t.box
 ·exact Bg (CY c1) _
 ·simp
def A7A(h:BR g b i t p j w sg)(A:Fz b i t p j)(ns:List Nat):∃c u,H5 sg p=some c/\c[2]?=some u/\BR g b i t p j (w.RU ns) (sg.set p (.box (c.set 2 (.list 1 (ns.map iN),.val))))/\Kx [b,i,t,p,j] sg (sg.set p (.box (c.set 2 (.list 1 (ns.map iN),.val)))):=by
 obtain⟨m1,m2,m3,c1,c2,c3,c4⟩:=h.d;refine⟨_,_,c1,rfl,⟨⟨?_,?_⟩,m1,.val,m3,?_,?_,.inr rfl,c4⟩,Kx.set1 _ _ (by simp)⟩
 ·exact h.t.st.mono (z2q A.pp.1) (z2q A.pp.2.1)
 ·rw[Cv A.pp.2.2];exact h.t.box
 ·exact Bg (CY c1) _
 ·rw[z2q (Ne.symm A.jj.2.2.2)];exact c2
def B7g(A:Fz b i t p j)(h:BR g b i t p j w sg)(I:j5 w)(hk:e.D5.length=2)(K0:Px b i t R A8 l.length (e.kd 0))(K1:Px b i t R A8 l.length (e.kd 1))(hE:Z5 w.s.l.length l)(hV:EV l)(Ho:w.D5=[])(hr:(MM R w e A8 l).1.s.J8+10<2 ^ 62):
 UM false b i t p j sg (C9.r KE [(.undef,.ptr t 0),(e.D9,.val),(iN A8,.val),(.list 3 (l.map EN.D9),.val),(.undef,.ptr p 0)] sg) [iN (MM R w e A8 l).2] (MM R w e A8 l).1:=by
 have start:=(kG t e.D9 (iN A8) (.list 3 (l.map EN.D9)) p sg).trans (mY _ _ _ _ _ _ _);simp only[AF,F8,NJ,VS (show 0<e.D5.length by omega),VS (show 1<e.D5.length by omega),show(DV.int .i64 0)=iN 0 from rfl,show(DV.int .i64 1)=iN 1 from rfl,show(DV.int .i64 8)=iN 8 from rfl]at start;obtain⟨a1,a2⟩:=U4 K0.good K0.sz I hE;have ak:=TC R w (e.kd 0) A8 l;have Pa:=Fh (g:=g) A h I (idx:=0) (by omega) K0 hE hV (by rw[Ho];simp);unfold MM at hr ⊢;simp only at hr ⊢;generalize J2 R w (e.kd 0) A8 l=a at a1 a2 ak Pa hr ⊢;obtain⟨b1,b2⟩:=U4 K1.good K1.sz a1.i (hE.mono a1.ext.le);have Pb:=λsg' (h':BR g b i t p j a.1 sg')=>Fh (g:=g) A h' a1.i (idx:=1) (by omega) K1 (hE.mono a1.ext.le) hV (by rw[Ho]at ak;simp at ak;omega);generalize J2 R a.1 (e.kd 1) A8 l=q at b1 b2 Pb hr ⊢;have lb:A8<2 ^ 31:=by have:=K0.sz;omega
 obtain⟨v1,v2⟩:=Ab b1.i lb;have Pv:=λsg' (h':BR g b i t p j q.1 sg')=>OD h' A b1.i.ok A8;generalize q.1.fresh A8=v at v1 v2 Pv hr ⊢;have t1:=Dm v1 (l:=[v.2]) (by simpa using v2);have g1:=U3 t1.i (a:=a.2) (b:=v.2) (z6q (b1.lt a2) v1.ext.le) v2 (e.kd 0);have Pg:=λsg' (h':BR false b i t p j (v.1.Y1 [v.2]) sg')=>DY h' A t1.i.ok (x:=a.2) (y:=v.2) (z6q (b1.lt a2) v1.ext.le) v2 (e.kd 0);generalize (v.1.Y1 [v.2]).agree a.2 v.2 (e.kd 0)=w1 at g1 Pg hr ⊢;obtain⟨n1,n2⟩:=EF g1.i (k:=8) (x:=v.2) (y:=0) (.inr (.inl rfl)) (g1.lt v2) (λh=>absurd rfl h);have Pn:=λsg' (h':BR false b i t p j w1 sg')=>XK h' A g1.i.ok (k:=8) (x:=v.2) (y:=0) (.inr (.inl rfl)) (g1.lt v2) (λh=>absurd rfl h);generalize w1.made 8 v.2 0=n at n1 n2 Pn hr ⊢;have g2:=U3 n1.i (a:=q.2) (b:=n.2) (n1.lt (g1.lt (v1.lt b2))) n2 (e.kd 1);have r1:=b1.ext.J8;have r2:=v1.ext.J8;have r3:=g1.ext.J8;have r4:=n1.ext.J8;have r5:=g2.ext.J8;have rt:(v.1.Y1 [v.2]).s=v.1.s:=rfl;rw[rt]at r3;obtain⟨s1,e1,m1,k1⟩:=Pa (by omega);obtain⟨s2,e2,m2,k2⟩:=Pb s1 m1 (by omega);obtain⟨s3,e3,m3,k3⟩:=Pv s2 m2;obtain⟨c,u,c1,c2,m4,k4⟩:=f_ m3 A [v.2];obtain⟨s5,e5,m5,k5⟩:=Pg _ m4 (by omega);obtain⟨s6,e6,m6,k6⟩:=Pn s5 m5;obtain⟨s7,e7,m7,k7⟩:=DY m6 A n1.i.ok (x:=q.2) (y:=n.2) (n1.lt (g1.lt (v1.lt b2))) n2 (e.kd 1) hr;simp only[zuq,zGq]at e5;simp only[e1,I7,z1q,e2,e3,P5,F8,c1,c2,NJ,e5,e6,e7]at start;exact⟨s7,start,m7,(k1.trans k2).trans (((ES k3).trans k4).trans (((ES k5).trans (ES k6)).trans (ES k7)))⟩
def B84(A:Fz b i t p j)(h:BR g b i t p j w sg)(I:j5 w)(hk:e.D5.length=2)(K0:Px b i t R A8 l.length (e.kd 0))(K1:Px b i t R A8 l.length (e.kd 1))(hE:Z5 w.s.l.length l)(hV:EV l)(Ho:w.D5=[])(hr:(Ru R w e A8 l).1.s.J8+10<2 ^ 62):
 UM g b i t p j sg (C9.r Kk [(.undef,.ptr t 0),(e.D9,.val),(iN A8,.val),(.list 3 (l.map EN.D9),.val),(.undef,.ptr p 0)] sg) [iN (Ru R w e A8 l).2] (Ru R w e A8 l).1:=by
 have start:=(nM t e.D9 (iN A8) (.list 3 (l.map EN.D9)) p sg).trans (rD _ _ _ _ _ _ _);simp only[AF,F8,NJ,VS (show 0<e.D5.length by omega),VS (show 1<e.D5.length by omega),show(DV.int .i64 0)=iN 0 from rfl,show(DV.int .i64 1)=iN 1 from rfl,show(DV.int .i64 9)=iN 9 from rfl,show(DV.int .i64 5)=iN 5 from rfl,show(DV.int .i64 6)=iN 6 from rfl,show(DV.int .i64 4)=iN 4 from rfl]at start;obtain⟨a1,a2⟩:=U4 K0.good K0.sz I hE;have ak:=TC R w (e.kd 0) A8 l;have Pa:=Fh (g:=g) A h I (idx:=0) (by omega) K0 hE hV (by rw[Ho];simp);unfold Ru at hr ⊢;simp only at hr ⊢;generalize J2 R w (e.kd 0) A8 l=f at a1 a2 ak Pa hr ⊢;obtain⟨b1,b2⟩:=U4 K1.good K1.sz a1.i (hE.mono a1.ext.le);have Pb:=λsg' (h':BR g b i t p j f.1 sg')=>Fh (g:=g) A h' a1.i (idx:=1) (by omega) K1 (hE.mono a1.ext.le) hV (by rw[Ho]at ak;simp at ak;omega);generalize J2 R f.1 (e.kd 1) A8 l=a at b1 b2 Pb hr ⊢;have f5:=b1.i.ok.five;have lb:A8<2 ^ 31:=by have:=K0.sz;omega
 have r1:=b1.ext.J8;have fl:=b1.lt a2;have r0:=(eD (e:=e) lb b1.i fl b2).1.ext.J8;obtain⟨s1,e1,m1,k1⟩:=Pa (by omega);obtain⟨s2,e2,m2,k2⟩:=Pb s1 m1 (by omega);have k2:=k1.trans k2;simp only[e1,I7,z1q,e2,JS m2.t,U2,F3,m2.t.box,Jj,TS m2.t.st b1.i.ok fl,PT,I6,NJ]at start;unfold TI at hr ⊢;by_cases ge:a.1.err=0;rotate_left
 ·rw[A9 ge]at hr ⊢;simp only[ge,T9,z9q,F6]at start;exact⟨s2,start,m2,k2⟩
 rw[A7 (λh=>h ge)]at hr ⊢;simp only[ge,J9,z5q,z0q,G9]at start;by_cases k5:a.1.s.F9 (a.1.s.root f.2)=5
 ·rw[A9 k5]at hr start ⊢;obtain⟨s3,e3,m3,k3⟩:=DY m2 A b1.i.ok (x:=a.2) (y:=4) b2 (by omega) (e.kd 1) hr;simp only[e3,I7]at start;exact⟨s3,start,m3,k2.trans (ES k3)⟩
 rw[A7 k5]at hr start ⊢;by_cases k6:a.1.s.F9 (a.1.s.root f.2)=6
 ·rw[A9 k6]at hr start ⊢;simp only at hr ⊢;obtain⟨v1,v2⟩:=Ab b1.i lb;obtain⟨s3,e3,m3,k3⟩:=OD m2 A b1.i.ok A8;generalize a.1.fresh A8=v at v1 v2 e3 m3 hr ⊢;obtain⟨u1,u2⟩:=Ab v1.i lb;obtain⟨s4,e4,m4,k4⟩:=OD m3 A v1.i.ok A8;generalize v.1.fresh A8=u at u1 u2 e4 m4 hr ⊢;obtain⟨n1,n2⟩:=EF u1.i (k:=9) (x:=v.2) (y:=u.2) (.inr (.inr rfl)) (u1.lt v2) (λ_=>u2);obtain⟨s5,e5,m5,k5'⟩:=XK m4 A u1.i.ok (k:=9) (x:=v.2) (y:=u.2) (.inr (.inr rfl)) (u1.lt v2) (λ_=>u2);generalize u.1.made 9 v.2 u.2=m at n1 n2 e5 m5 hr ⊢;have fm:=n1.lt (u1.lt (v1.lt fl));have g1:=U3 n1.i (a:=f.2) (b:=m.2) fm n2 (e.kd 0);have Pg:=DY m5 A n1.i.ok (x:=f.2) (y:=m.2) fm n2 (e.kd 0);generalize m.1.agree f.2 m.2 (e.kd 0)=w1 at g1 Pg hr ⊢;have am:=g1.lt (n1.lt (u1.lt (v1.lt b2)));have vm:=g1.lt (n1.lt (u1.lt v2));have r6:=(U3 g1.i (a:=a.2) (b:=v.2) am vm (e.kd 1)).ext.J8;obtain⟨s6,e6,m6,k6'⟩:=Pg (by omega);obtain⟨s7,e7,m7,k7⟩:=DY m6 A g1.i.ok (x:=a.2) (y:=v.2) am vm (e.kd 1) hr;simp only[e3,I7,z1q,e4,e5,e6,e7]at start;exact⟨s7,start,m7,(k2.trans (ES k3)).trans (((ES k4).trans (ES k5')).trans ((ES k6').trans (ES k7)))⟩
 rw[A7 k6]at hr start ⊢;by_cases k9:a.1.s.F9 (a.1.s.root f.2)=9
 ·rw[A9 k9]at hr start ⊢;have kn:=b1.i.ok.Yl (b1.i.ok.Gs fl);rw[k9]at kn;have kn:(a.1.s.I1 (a.1.s.root f.2)).length=2:=kn;have gd:∀x,x<2->(a.1.s.I1 (a.1.s.root f.2)).getD x 0<a.1.s.l.length/\O0 1 (.list 1 ((a.1.s.I1 (a.1.s.root f.2)).map iN)) (iN x)=some (iN ((a.1.s.I1 (a.1.s.root f.2)).getD x 0)):=by
   intro x hx;have FH:x<(a.1.s.I1 (a.1.s.root f.2)).length:=by omega
   have e0:(a.1.s.I1 (a.1.s.root f.2)).getD x 0=(a.1.s.I1 (a.1.s.root f.2))[x]:=by rw[zhq,zdq FH];rfl
   rw[e0];exact⟨b1.i.ok.Nn fl (z3q FH),IL FH⟩
  have kq:=pW m2.t.st b1.i.ok fl;have m2':BR g b i t p j a.1 (s2++[.arr 1 []]):=by have kx:Kx [b,i,t] s2 (s2++[.arr 1 []]):=Kx.app _ _;refine⟨⟨m2.t.st.app _,?_⟩,m2.d.kx A kx rfl rfl rfl⟩;unfold H5;rw[zaq (CY m2.t.box)];exact m2.t.box
  obtain⟨s3,e3,m3,k3⟩:=DY m2' A b1.i.ok (x:=a.2) b2 (gd 0 (by omega)).1 (e.kd 1) hr;simp only[kq,I7,z1q,(gd 0 (by omega)).2,Ba,F8,e3,(gd 1 (by omega)).2]at start;exact⟨s3,start,m3,k2.trans ((Kx.app _ _).trans (ES k3))⟩
 ·rw[A7 k9]at hr start ⊢;obtain⟨s3,e3,a3,k3⟩:=dG m2.t 4 ⟨(e.kd 0).lo,(e.kd 0).hi,4,a.1.s.F9 (a.1.s.root f.2),9,Y4⟩;have be:DV.agg [iI (e.kd 0).lo,iI (e.kd 0).hi,iN 4,iN (a.1.s.F9 (a.1.s.root f.2)),iN 9,.str ⟨#[]⟩]=(⟨(e.kd 0).lo,(e.kd 0).hi,4,a.1.s.F9 (a.1.s.root f.2),9,Y4⟩:GJ).D9:=rfl;simp only[P5,F8,Ex.FZ,Ex.Dl,be,e3,I7]at start;have k4:Kx [b,i,t] s2 s3:=k3.more (by intro x hx;simp only[zxq,zmq,or_false]at hx ⊢;omega);exact⟨s3,start,⟨a3,m2.d.kx A k4 (by unfold W.fails;split<;>rfl) (by unfold W.fails;split<;>rfl) (by unfold W.fails;split<;>rfl)⟩,k2.trans (ES k4)⟩
end
end
end Go.Su
