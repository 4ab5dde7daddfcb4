/-
  Parts of the proof, merged: Q, TN1, TN2, TN3, TN4, TN5, TN6, TN7, TN8, TN9, TN10, TN11, TN12, TN13, TN14, TN15, TN16.
-/
import Derived.Test.YtfcklgngoefgmaaGreatQ3
import Derived.Test.YtfcklgngoefgmaaGreatQ4
import Derived.Test.YtfcklgngoefgmaaGreatQ5
set_option linter.unusedVariables false
set_option linter.unusedSimpArgs false
set_option linter.unusedSectionVars false
/-
 The functions' specs that this claim needs.
-/
open Bool renaming false_eq_true → z1q, not_true → z5q, not_false → z9q, true_and → zjq, and_eq_true → zLq, eq_false_iff → zQq, eq_iff_iff → ybq, false_and → yoq, or_false → yrq, and_true → ysq
open Int renaming cast_ofNat_Int → ztq, natCast_zero → zFq, ofNat_zero → zOq, ofNat_inj → zTq, toNat_natCast → yfq
open List renaming getD_cons_zero → z0q, getElem?_set_ne → z2q, getElem_mem → z3q, drop_eq_getElem_cons → z4q, getElem?_eq_some_iff → z7q, drop_of_length_le → z8q, getElem?_append_left → zaq, length_map → zbq, drop_zero → zcq, length_nil → zdq, getElem?_eq_getElem → zeq, mem_singleton → zgq, length_cons → zhq, getD_eq_getElem?_getD → ziq, not_mem_nil → zkq, length_append → zlq, getElem?_append_right → zmq, mem_cons_self → znq, mem_cons → zoq, mem_cons_of_mem → zpq, mem_append → zqq, map_cons → zsq, map_nil → zuq, getElem?_set → zvq, getElem?_zipWith → zwq, nil_append → zxq, getElem?_cons_succ → zAq, getElem?_cons_zero → zBq, take_of_length_le → zDq, getElem?_set_self → zEq, ext_getElem? → zGq, length_set → zHq, set_set → zIq, length_eq_zero_iff → zMq, take_succ_eq_append_getElem → zNq, sum_cons → zPq, set_append_right → zRq, length_filter_le → zSq, nodup_iff_pairwise_ne → zVq, length_zipWith → zWq, mem_map_of_mem → zXq, pairwise_iff_getElem → zYq, mem_take_iff_getElem → zZq, of_mem_zip → y1q, set_cons_zero → y2q, flatMap_cons → y3q, nodup_append → y4q, append_assoc → y5q, filter_cons → y6q, all_cons → y7q, singleton_append → y8q, map_append → ycq, mem_of_mem_drop → ydq, take_length → yhq, length_drop → yiq, drop_length → yjq, filter_nil → ylq, append_nil → ymq, mem_filter → ynq, nodup_nil → ypq
open Nat renaming lt_of_lt_of_le → z6q, le_refl → zfq, lt_irrefl → zrq, le_of_lt → zCq, le_trans → zJq, zero_add → zKq, sub_self → y9q, lt_of_le_of_lt → yeq, min_le_right → ygq, zero_lt_one → ykq
open Option renaming isSome_none → zyq, isSome_some → zzq, getD_some → zUq, map_some → y0q, map_none → yaq, getD_none → yqq
namespace Go.Su
set_option linter.defProp false
def big{n:Nat}(h:n<=R9):n<4294967297:=by unfold R9 at h;omega
variable (k:Int)
def A7W:C9.p ky [iI k]=some (iI (Ov k)):=by refine(A5i _).trans ?_;rw[A7s];simp[Ov];by_cases h1:k=1<;>by_cases h2:k=2<;>by_cases h3:k=3<;>by_cases h4:k=4<;>by_cases h5:k=5<;>by_cases h6:k=6<;>by_cases h7:k=7<;>by_cases h8:k=8<;>by_cases h9:k=9<;>simp_all
def A66:C9.p fe [iI k]=some (iI (Ov k)):=by refine(A30 _).trans ?_;rw[A48];simp[Ov];by_cases h1:k=1<;>by_cases h2:k=2<;>by_cases h3:k=3<;>by_cases h4:k=4<;>by_cases h5:k=5<;>by_cases h6:k=6<;>by_cases h7:k=7<;>by_cases h8:k=8<;>by_cases h9:k=9<;>simp_all
variable (t:Ty)
def A61:t.thin=true->C9.p Wu [t.D9]=some (.bool t.right):=by
 induction t using Ty.ind with
 |h t ih=>
   intro ht;have hb:=t.IZ ht;refine(A3T _).trans ?_;have loop:JP C9 (iI 0) t.D9=_:=bG (l:=t.D6) (f:=Ty.right) (P:=λi=>JP C9 (iI i) t.D9) (y:=.bool true) (n:=.bool false)
    (by rw[dR];simp)
    (λi h=>by rw[dR];simp[h,V5 h,Ty.BD,Ty.ag,ih _ (z3q h) (Ty.IY ht (z3q h)),Co (show i<9223372036854775807 by omega)];cases t.D6[i].right<;>rfl)
   rw[A4Z];simp only[BN,F8,Ty.CJ,Ty.FL,Ty.DZ,A7W,M4,Gz,Dm,GD,EQ,Q4,F3,loop,Ty.right_eq t,zbq]
   grind
def A67:t.thin=true->C9.p Wy [t.D9]=some (.bool t.right):=by
 induction t using Ty.ind with
 |h t ih=>
   intro ht;have hb:=t.IZ ht;refine(A31 _).trans ?_;have loop:MG C9 (.list 3 (t.D6.map Ty.D9)) (iI t.D6.length) (iI 0)=_:=bG (l:=t.D6) (f:=Ty.right) (P:=λi=>MG C9 (.list 3 (t.D6.map Ty.D9)) (iI t.D6.length) (iI i)) (y:=.bool true) (n:=.bool false)
    (by rw[dY];simp)
    (λi h=>by rw[dY];simp[h,V5 h,Ty.BD,Ty.ag,ih _ (z3q h) (Ty.IY ht (z3q h)),Co (show i<9223372036854775807 by omega)];cases t.D6[i].right<;>rfl)
   rw[A49];simp only[BN,F8,Ty.CJ,Ty.FL,Ty.DZ,A66,M4,Gz,Dm,GD,EQ,WI,NL,BJ,Q4,F3,loop,Ty.right_eq t,zbq];have h0:t.E8=6->Ov t.E8=0:=λh=>by rw[h];rfl
   have h7:t.E8=6->Ov t.E8=t.D6.length->t.D6.all Ty.right=true:=λh h'=>by have:t.D6=[]:=List.eq_nil_of_length_eq_zero (by have:=h0 h;omega);rw[this];rfl
   have h8:(t.D6.length:Int)=Ov t.E8↔Ov t.E8=t.D6.length:=eq_comm;simp only[h8,B6G,B1o];refine B7f ?_;by_cases h1:Ov t.E8=t.D6.length
   ·have h2:¬(Ov t.E8<0):=by omega
    by_cases h4:t.E8=6
    ·simp[h1,h2,h4,h7 h4 h1];omega
    ·by_cases h5:t.n=0<;>simp[h1,h2,h4,h5]
   ·by_cases h2:Ov t.E8<0<;>simp[h1,h2]
theorem uR(ht:t.thin=true):C9.p Wx [t.D9]=some (iI (if t.right=true then 0 else 1)):=by refine(A3Z _).trans ?_;rw[A47];simp[Ty.BD,Ty.ag,A67 t ht];cases t.right<;>rfl
def xc(a:Ty):a.thin=true->∀b:Ty,C9.p Tg [a.D9,b.D9]=some (.bool (decide (a=b))):=by
 induction a using Ty.ind with
 |h a ih=>
   intro ha b;have hb:=a.IZ ha;refine(A5k _ _).trans ?_;rw[A7u];simp;by_cases h1:a.E8=b.E8<;>simp[h1,Ty.aO];by_cases h2:a.n=b.n<;>simp[h2];by_cases h3:a.D6.length=b.D6.length
   ·have loop:=bH (l:=a.D6) (m:=b.D6) h3 (P:=λi=>SK C9 (iI i) a.D9 b.D9) (y:=.bool true) (n:=.bool false)
     (by rw[jM];simp[h3])
     (λi h=>by
       have h':i<b.D6.length:=by omega
       rw[jM];simp[h,h',V5 h,V5 h',Ty.BD,Ty.ag,ih _ (z3q h) (Ty.IY ha (z3q h)),Co (show i<9223372036854775807 by omega)])
    simp only[h3]at loop ⊢;simp[loop];by_cases h4:a.D6=b.D6<;>simp[h4]
   ·have:a.D6≠b.D6:=λh=>h3 (by rw[h]);simp[zTq,h3,this]
def bW(a:Ty):a.thin=true->∀b:Ty,C9.p OE [a.D9,b.D9]=some (.bool (decide (a=b))):=by
 induction a using Ty.ind with
 |h a ih=>
   intro ha b;have hb:=a.IZ ha;refine(A3N _ _).trans ?_;rw[A4R];simp;by_cases h1:a.E8=b.E8<;>simp[h1,Ty.aO];by_cases h2:a.n=b.n<;>simp[h2];by_cases h3:a.D6.length=b.D6.length
   ·have loop:=bH (l:=a.D6) (m:=b.D6) h3 (P:=λi=>QY C9 (iI i) a.D9 b.D9) (y:=.bool true) (n:=.bool false)
     (by rw[dO];simp[h3])
     (λi h=>by
       have h':i<b.D6.length:=by omega
       rw[dO];simp[h,h',V5 h,V5 h',Ty.BD,Ty.ag,ih _ (z3q h) (Ty.IY ha (z3q h)),Co (show i<9223372036854775807 by omega)])
    simp only[h3]at loop ⊢;simp[loop];by_cases h4:a.D6=b.D6<;>simp[h4]
   ·have:a.D6≠b.D6:=λh=>h3 (by rw[h]);simp[zTq,h3,this]
def A2f(q:Int)(t:Ty):t.thin=true->C9.p SG [t.D9,iI q]=some (.bool (t.FW q)):=by
 induction t using Ty.ind with
 |h t ih=>
   intro ht;have hb:=t.IZ ht;refine(A0u _ _).trans ?_;have loop:Jb C9 (iI q) (.list 3 (t.D6.map Ty.D9)) (iI t.D6.length) (iI 0)=_:=Xy (l:=t.D6) (f:=Ty.FW q) (P:=λi=>Jb C9 (iI q) (.list 3 (t.D6.map Ty.D9)) (iI t.D6.length) (iI i))
    (by rw[Yj];simp)
    (λi h=>by rw[Yj];simp[h,V5 h,Ty.BD,Ty.ag,ih _ (z3q h) (Ty.IY ht (z3q h)),Co (show i<9223372036854775807 by omega)];cases(t.D6[i].FW q)<;>rfl)
   rw[A1x];simp only[loop,BN,F8,Ty.CJ,Ty.DZ,M4,Gz,BJ,F3,zbq,Ty.Zb q t]
   by_cases h1:t.E8=q<;>simp[h1]
def A2d(q:Int)(t:Ty):t.thin=true->C9.p SC [t.D9,iI q]=some (.bool (t.FW q)):=by
 induction t using Ty.ind with
 |h t ih=>
   intro ht;have hb:=t.IZ ht;refine(A0q _ _).trans ?_;have loop:Ja C9 (iI q) (iI 0) t.D9=_:=Xy (l:=t.D6) (f:=Ty.FW q) (P:=λi=>Ja C9 (iI q) (iI i) t.D9)
    (by rw[Yg];simp)
    (λi h=>by rw[Yg];simp[h,V5 h,Ty.BD,Ty.ag,ih _ (z3q h) (Ty.IY ht (z3q h)),Co (show i<9223372036854775807 by omega)];cases(t.D6[i].FW q)<;>rfl)
   rw[A1o];simp only[loop,BN,F8,Ty.CJ,Ty.DZ,M4,Gz,BJ,F3,zbq,Ty.Zb q t]
   by_cases h1:t.E8=q<;>simp[h1]
def qB(ht:t.thin=true):C9.p Tp [t.D9]=some (.bool (t.FW 6)):=by refine(A1F _).trans ?_;rw[A3I];simp[Ty.BD,Ty.ag,A2f 6 t ht]
variable (s:ByteArray)
def A71:C9.p lD [.str s]=some (.bool (yP s)):=by
 refine(A5p _).trans ?_;rw[A7z];have e:∀l:List UInt8,(s=⟨l.toArray⟩)↔s.data.toList=l:=λl=>by
  constructor
  ·rintro rfl;simp
  ·intro h;cases s;simp only[ByteArray.mk.injEq];exact Array.ext' (by simpa using h)
 simp only[rT,M4,F3];simp only[e,yP,tX,zoq,zkq,or_false];simp only[I9,B7Y,B1o,Bool.if_true_left,Bool.decide_or,yrq]
variable (c:Int)
def A4b:C9.p Zr [.int .u8 c]=some (.bool (Qs c)):=by
 refine(A1G _).trans ?_;rw[A3K];simp only[WI,NL,BJ,M4,Q4,I9,Qs,Fy,rU]
 by_cases h1:97<=c<;>by_cases h2:c<=122<;>by_cases h3:65<=c<;>by_cases h4:c<=90<;>by_cases h5:48<=c<;>by_cases h6:c<=57<;>by_cases h7:c=95<;>simp[h1,h2,h3,h4,h5,h6,h7]
def bX:C9.p Rb [.int .u8 c]=some (.bool (Fy c)):=by
 refine(A3S _).trans ?_;rw[A4Y];simp only[WI,NL,M4,Q4,I9,Fy]
 by_cases h1:97<=c<;>simp[h1]
def A60:C9.p fU [.int .u8 c]=some (.bool (rU c)):=by
 refine(A3R _).trans ?_;rw[A4X];simp only[WI,NL,M4,Q4,I9,rU]
 by_cases h1:48<=c<;>simp[h1]
def A7V:C9.p ku [.int .u8 c]=some (.bool (Qs c)):=by
 refine(A5h _).trans ?_;rw[A7r];simp only[WI,NL,BJ,M4,Q4,I9,bX,A60,Qs]
 by_cases h1:Fy c=true<;>by_cases h2:rU c=true<;>by_cases h3:65<=c<;>by_cases h4:c<=90<;>by_cases h7:c=95<;>simp[h1,h2,h3,h4,h7]
def A8Q{s:ByteArray}(h:s.size<=R9):(Br s).length<4294967297:=by rw[OL];exact big h
def bZ(hs:s.size<=R9):C9.p Rc [.str s]=some (.bool (KA s)):=by
 have hb:=A8Q hs;refine(A32 _).trans ?_;rw[A5a];simp only[FY,M4,GD,EQ,Q4,F3,I9,KA,<- OL]
 by_cases h1:((Br s).length:Int)<1
 ·have:¬(1<=(Br s).length):=by omega
  simp[h1,this]
 ·by_cases h2:(32:Int)<((Br s).length:Int)
  ·have:¬((Br s).length<=32):=by omega
   simp[h1,h2,this]
  ·have h0:0<(Br s).length:=by omega
   have e0:=aG (s:=s) (k:=.i64) h0;simp only[zFq,zOq,ztq]at e0;have loop:∀(k i:Nat),i+k=(Br s).length->Qe C9 (.str s) (iI i)=some (.bool (((Br s).drop i).all Qs)):=by
    intro k;induction k with
    |zero=>
      intro i hi;rw[dZ];have:¬i<(Br s).length:=by omega
      simp[<- OL,this,z8q (show(Br s).length<=i by omega)]
    |succ k ih=>
      intro i hi;have h:i<(Br s).length:=by omega
      rw[dZ];have:=ih (i+1) (by omega);push_cast at this;have P6:(i:Int)<(s.size:Int):=by rw[<- OL];omega
      rw[z4q h,y7q];simp only[FY,M4,GD,P6,K3,F3,F6,aG h,A4b,U1,Co (show i<9223372036854775807 by omega)]
      push_cast;rw[this];cases Qs (Br s)[i]<;>rfl
   have l1:=loop ((Br s).length-1) 1 (by omega);simp only[Int.natCast_one,Int.ofNat_one,ztq]at l1;have g0:(Br s).getD 0 0=(Br s)[0]:=by simp[ziq,h0]
   have d0:Br s=(Br s)[0]::(Br s).drop 1:=by have:=z4q h0;simpa using this
   have a1:(1<=(Br s).length):=by omega
   have a2:((Br s).length<=32):=by omega
   have IE:IC (.str s) (iI 0)=some (.int .u8 (Br s)[0]):=e0;simp only[h1,h2,G8,IE,M4,GD,EQ,Q4,I9,A71,F3,g0,a1,a2,K3,zjq]
   by_cases h3:(Br s)[0]<97
   ·have:Fy (Br s)[0]=false:=by simp[Fy];omega
    simp[h3,this]
   ·by_cases h4:(122:Int)<(Br s)[0]
    ·have:Fy (Br s)[0]=false:=by simp[Fy];omega
     simp[h3,h4,this]
    ·have h5:Fy (Br s)[0]=true:=by simp[Fy];omega
     have h6:Qs (Br s)[0]=true:=by simp[Qs,h5]
     have h7:(Br s).all Qs=((Br s).drop 1).all Qs:=by
      conv=>lhs;rw[d0]
      simp[h6]
     cases hk:yP s
     ·simp only[h3,h4,G8,z1q,h5,h7,zjq,z9q,ysq]
      exact l1
     ·simp[h3,h4]
open Classical in
def B0o(hs:s.size<=4294967000):C9.p qm [.str s]=some (.bool (yP s)):=by
 have hb:(Br s).length<=4294967000:=by rw[OL];exact hs
 refine(A7A _).trans ?_;rw[A9q]
 let t:ByteArray:=⟨#[32]⟩++s++⟨#[32]⟩
 have tl:t.data.toList=32::s.data.toList++[32]:=by simp[t]
 have ts:t.size=s.size+2:=by have:=congrArg List.length tl;simp only[Array.length_toList,zlq,zhq,zdq]at this;have e1:t.size=t.data.size:=rfl;have e2:s.size=s.data.size:=rfl;omega
 have search:∀(k i:Nat),i+k=82->PZ C9 (.str s) (.str t) (iI i)=some (.bool (decide (0<s.size/\∃j,i<=j/\j+t.size<=81/\(DK.drop j).take t.size=t.data.toList))):=by
  intro k;induction k with
  |zero=>
    intro i hi;rw[pG];simp only[FY,M4];rw[WH (by omega) (by omega)];have:¬((i:Int)+(t.size:Int)<=81):=by omega
    have h2:¬(0<s.size/\∃j,i<=j/\j+t.size<=81/\(DK.drop j).take t.size=t.data.toList):=by rintro⟨-,j,h1,h2,-⟩;omega
    simp[this,h2]
  |succ k ih=>
    intro i hi;rw[pG];simp only[FY,M4];rw[WH (by omega) (by omega)];by_cases h1:(i:Int)+(t.size:Int)<=81
    ·have h1':i+t.size<=81:=by omega
     have nx:=ih (i+1) (by omega);simp only[NL,h1,K3,M4,F3,F6,EQ,Q4,I9];rw[show((i+1:Nat):Int)=(i:Int)+1 by omega]at nx;by_cases h0:(0:Int)<(s.size:Int)
     ·have h0':0<s.size:=by omega
      have ext:∀w:ByteArray,w.data.toList=DK->iw (.str w) (some (iI (i:Int))) (some (iI ((i:Int)+(t.size:Int))))=some (.str (w.extract i (i+t.size))):=by
       intro w hw;have hwl:w.size=81:=by have:=congrArg List.length hw;rw[B2o]at this;simpa using this
       have e1:((i:Int)+(t.size:Int)).toNat=i+t.size:=by omega
       simp only[iw,bnd,M4,e1,show(0:Int)<=(i:Int)+(t.size:Int)by omega,F6,Int.natCast_nonneg,yfq,hwl]
       rw[C8 (by omega)]
      simp only[h0,F6];rw[ext _ rfl];simp only[M4,rT,F3,I9];rw[Co (by omega)];simp only[M4];rw[show((i+1:Nat):Int)=(i:Int)+1 by omega,nx];have exl:∀w:ByteArray,w.data.toList=DK->((w.extract i (i+t.size)=t)↔(DK.drop i).take t.size=t.data.toList):=by
       intro w hw;have e:(w.extract i (i+t.size)).data.toList=(DK.drop i).take t.size:=by rw[ByteArray.data_extract,Array.toList_extract,hw,List.extract_eq_take_drop];congr 1;omega
       rw[<- e];constructor
       ·intro h;rw[h]
       ·intro h;cases hx:w.extract i (i+t.size);rw[hx]at h;cases ht:t;rw[ht]at h;simp only[ByteArray.mk.injEq];exact Array.ext' h
      by_cases h2:(DK.drop i).take t.size=t.data.toList
      ·rw[C8 ((exl _ rfl).2 h2)];have:(0<s.size/\∃j,i<=j/\j+t.size<=81/\(DK.drop j).take t.size=t.data.toList):=⟨h0',i,zfq _,h1',h2⟩;simp[this]
      ·rw[A7 (λh=>h2 ((exl _ rfl).1 h))];congr 2;rw[ybq];simp only[I9];constructor
       ·rintro⟨a,j,b,c⟩;exact⟨a,j,by omega,c⟩
       ·rintro⟨a,j,b,c,d⟩;refine⟨a,j,?_,c,d⟩;rcases Nat.lt_or_ge i j with h | h
        ·exact h
        ·exact absurd (by rw[show i=j by omega];exact d) h2
     ·have:¬(0<s.size/\∃j,i<=j/\j+t.size<=81/\(DK.drop j).take t.size=t.data.toList):=λh=>h0 (by have:=h.1;omega);have B8d:¬(0<s.size/\∃j,i+1<=j/\j+t.size<=81/\(DK.drop j).take t.size=t.data.toList):=λh=>h0 (by have:=h.1;omega);simp only[h0,G8];rw[Co (by omega)];simp only[M4];rw[show((i+1:Nat):Int)=(i:Int)+1 by omega,nx];simp[this,B8d]
    ·have h2:¬(0<s.size/\∃j,i<=j/\j+t.size<=81/\(DK.drop j).take t.size=t.data.toList):=by rintro⟨-,j,h3,h4,-⟩;omega
     simp[h1,h2]
 have fin:(s.data.toList.all yS=true/\0<s.size/\∃j,0<=j/\j+t.size<=81/\(DK.drop j).take t.size=t.data.toList)↔s.data.toList∈tX:=by
  rw[<- B2n];have e2:s.data.toList.length=s.size:=by simp
  rw[e2,ts,tl];simp
 have low:∀b:UInt8,Fy (b.toNat:Int)=yS b:=by intro b;simp only[Fy,yS,UInt8.le_iff_toNat_le];rw[ybq];simp only[zLq,I9];have h1:(97:UInt8).toNat=97:=rfl;have h2:(122:UInt8).toNat=122:=rfl;rw[h1,h2];omega
 have loop:∀(k i:Nat),i+k=(Br s).length->UE C9 (.str s) (iI i)=some (.bool (decide (((Br s).drop i).all Fy=true/\0<s.size/\∃j,0<=j/\j+t.size<=81/\(DK.drop j).take t.size=t.data.toList))):=by
  intro k;induction k with
  |zero=>
    intro i hi;rw[pE];have P6:¬(i:Int)<(s.size:Int):=by rw[<- OL];omega
    have e1:D7 .add (.str ⟨#[32]⟩) (.str s)=some (.str (⟨#[32]⟩++s)):=by simp only[D7,iy];rw[C8];have:(⟨#[32]⟩:ByteArray).size=1:=rfl;unfold R9;omega
    have e2:D7 .add (.str (⟨#[32]⟩++s)) (.str ⟨#[32]⟩)=some (.str t):=by
     simp only[D7,iy];rw[C8];have h1:(⟨#[32]⟩:ByteArray).size=1:=rfl;have h2:(⟨#[32]⟩++s:ByteArray).size=s.size+1:=by have:=ByteArray.size_append (a:=⟨#[32]⟩) (b:=s);omega
     unfold R9;omega
    have:=search 82 0 rfl;simp only[zFq,zOq,ztq]at this;simp only[FY,M4,GD,P6,R5,F3,z1q,G8,e1,e2,z8q (show(Br s).length<=i by omega),List.all_nil,true_and]
    exact this
  |succ k ih=>
    intro i hi;have h:i<(Br s).length:=by omega
    rw[pE];have:=ih (i+1) (by omega);push_cast at this;have P6:(i:Int)<(s.size:Int):=by rw[<- OL];omega
    rw[z4q h,y7q];simp only[FY,M4,GD,P6,K3,F3,F6,aG h,bX,U1,Co (show i<9223372036854775807 by omega)]
    push_cast;rw[this];cases Fy (Br s)[i]<;>simp
 have l0:=loop (Br s).length 0 (by omega);simp only[zFq,zOq,ztq]at l0;have e3:(Br s).all Fy=s.data.toList.all yS:=by
  simp only[Br,List.all_map]
  congr 1;funext b;exact low b
 refine l0.trans ?_;rw[zcq,e3];simp only[fin,yP]
def iF(hs:s.size<=4294967000):C9.p KZ [.str s]=some (.bool (KA s)):=by
 have hb:=A8Q (s:=s) (by unfold R9;omega);refine(A5g _).trans ?_;rw[A7q];have h32:D7 .gtr (iI (s.size:Int)) (iI 32)=some (.bool (decide (32<s.size))):=by rw[EQ];congr 2;rw[decide_eq_decide];omega
 simp only[FY,M4,GD,h32,Q4,F3,I9,KA]
 by_cases h1:(s.size:Int)<1
 ·have:¬(1<=s.size):=by omega
  simp[h1,this]
 ·by_cases h2:32<s.size
  ·have:¬(s.size<=32):=by omega
   simp[h1,h2,this]
  ·have h0:0<(Br s).length:=by rw[OL];omega
   have loop:∀(k i:Nat),i+k=(Br s).length->SI C9 (.str s) (iI i)=some (.bool (((Br s).drop i).all Qs&&!yP s)):=by
    intro k;induction k with
    |zero=>
      intro i hi;rw[jL];have P6:¬(i:Int)<(s.size:Int):=by rw[<- OL];omega
      simp[P6,z8q (show(Br s).length<=i by omega),B0o s hs]
    |succ k ih=>
      intro i hi;have h:i<(Br s).length:=by omega
      rw[jL];have:=ih (i+1) (by omega);push_cast at this;have P6:(i:Int)<(s.size:Int):=by rw[<- OL];omega
      rw[z4q h,y7q];simp only[FY,M4,GD,P6,K3,F3,F6,aG h,A7V,U1,Co (show i<9223372036854775807 by omega)]
      push_cast;rw[this];cases Qs (Br s)[i]<;>rfl
   have l0:=loop (Br s).length 0 (by omega);simp only[zFq,zOq,ztq,zcq]at l0;have g0:(Br s).getD 0 0=(Br s)[0]:=by simp[ziq,h0]
   have IE:IC (.str s) (iI 0)=some (.int .u8 (Br s)[0]):=aG (s:=s) (k:=.i64) h0;have a1:(1<=s.size):=by omega
   have a2:(s.size<=32):=by omega
   simp only[h1,h2,G8,IE,M4,bX,U1,F3,g0,a1,a2,K3,zjq,l0];cases Fy (Br s)[0]<;>simp
theorem Bq:(.str ⟨#[]⟩:DV)=.str Z5:=rfl
variable (p:F5)
def A2e(hp:p.texts):C9.p YF [p.D9]=some (.bool p.one):=by
 obtain⟨hn,hs⟩:=hp;have h24:∀(t4:Int)(a b c g:DV)(nm:ByteArray)(n:Int)(s:ByteArray),Ak C9 (iI t4) p.D9 a b c (.str nm) (iI n) (.str s) g =
  some (.bool (decide ((p.D6.length:Int)=t4)&&decide (nm=p.name)&&decide (n=p.n)&&decide (s=p.s))):=by
  intro t4 a b c g nm n s;rw[vW];simp only[F5.nQ,F5.L_,F5.ed,F5.vL,Gz,zbq,M4,BJ,rT,Q4,I9]
  by_cases h1:(p.D6.length:Int)=t4<;>by_cases h2:nm=p.name<;>by_cases h3:n=p.n<;>simp[h1,h2,h3]
 refine(A0t _).trans ?_;rw[A1r];have DL:D7 .gtr (iI (p.s.size:Int)) (iI 200)=some (.bool (decide (200<p.s.size))):=by rw[EQ];congr 2;rw[decide_eq_decide];omega
 simp only[LA,F8,F5.pj,Qm,U_,XC,BJ,Dm,M4,F3,Q4,bZ p.name (by unfold R9;omega),U1,FY,DL,h24,Bq]
 unfold F5.one;by_cases k1:p.E8=1
 ·simp[k1,eq_comm]
 by_cases k6:p.E8=6
 ·simp[k6,eq_comm]
 by_cases k8:p.E8=8
 ·simp[k8,eq_comm]
 by_cases k2:p.E8=2
 ·cases eF:KA p.name<;>simp[k2,eF,eq_comm]
 by_cases k3:p.E8=3
 ·simp[k3,eq_comm]
 by_cases k4:p.E8=4
 ·by_cases n0:p.n=0
  ·simp[k4,n0,eq_comm]
  ·by_cases n1:p.n=1<;>simp[k4,n0,n1,eq_comm]
 by_cases k5:p.E8=5
 ·by_cases h:200<p.s.size
  ·have:¬p.s.size<=200:=by omega
   simp[k5,h,this]
  ·have:p.s.size<=200:=by omega
   simp[k5,h,this,eq_comm]
 have h2:decide (2=(p.D6.length:Int))=decide (2=p.D6.length):=by rw[decide_eq_decide];omega
 by_cases k7:p.E8=7
 ·simp[k7,eq_comm,h2]
 by_cases k9:p.E8=9
 ·simp[k9,eq_comm,h2]
 simp[k1,k2,k3,k4,k5,k6,k7,k8,k9]
def B0s:p.thin=true->p.txt->C9.p cz [p.D9]=some (.bool p.pat):=by
 induction p using F5.ind with
 |h p ih=>
   intro ht hx;have hb:=p.IZ ht;obtain⟨hn,hs⟩:=hx p p.B3C;have loop:Ns C9 (iI p.D6.length) (iI 0) p.D9=some (.bool (p.D6.all F5.pat)) :=
    Xy (l:=p.D6) (f:=F5.pat) (P:=λi=>Ns C9 (iI p.D6.length) (iI i) p.D9)
     (by rw[jO];simp)
     (λi h=>by rw[jO];simp[h,V5 h,F5.BD,F5.ag,ih _ (z3q h) (F5.IY ht (z3q h)) (F5.B5M hx (z3q h)),Co (show i<9223372036854775807 by omega)];cases p.D6[i].pat<;>rfl)
   have h25:∀(t4:Int)(a:DV)(nm:ByteArray)(n:Int)(s:ByteArray),DF C9 (iI t4) p.D9 a (.str nm) (iI n) (.str s) =
    some (.bool ((decide ((p.D6.length:Int)=t4)&&decide (p.name=nm)&&decide (p.n=n)&&decide (p.s=s))&&p.D6.all F5.pat)):=by
    intro t4 a nm n s;rw[A3A];simp only[F5.nQ,F5.L_,F5.ed,F5.vL,Gz,zbq,M4,Dm,TF,Q4,F3,I9]
    by_cases h1:(p.D6.length:Int)=t4<;>by_cases h2:p.name=nm<;>by_cases h3:p.n=n<;>by_cases h4:p.s=s<;>simp[h1,h2,h3,h4];rw[<- h1];rw[loop]
   refine(A7E _).trans ?_;rw[A9u];have DL:D7 .gtr (iI (p.s.size:Int)) (iI 200)=some (.bool (decide (200<p.s.size))):=by rw[EQ];congr 2;rw[decide_eq_decide];omega
   simp only[LA,F8,F5.pj,Qm,U_,XC,BJ,Dm,GD,EQ,M4,F3,Q4,iF p.name hn,U1,FY,h25,Bq];rw[F5.kP];unfold F5.one;by_cases k1:p.E8=1
   ·simp[k1]
   by_cases k6:p.E8=6
   ·simp[k6]
   by_cases k8:p.E8=8
   ·simp[k8]
   by_cases k2:p.E8=2
   ·cases eF:KA p.name<;>simp[k2,eF]
   by_cases k3:p.E8=3
   ·simp[k3]
   by_cases k4:p.E8=4
   ·by_cases n0:p.n<0
    ·have h1:¬(p.n=0\/p.n=1):=by omega
     simp[k4,n0,h1]
    ·by_cases n1:1<p.n
     ·have h1:¬(p.n=0\/p.n=1):=by omega
      simp[k4,n0,n1,h1]
     ·have h1:(p.n=0\/p.n=1):=by omega
      simp[k4,n0,n1,h1]
   by_cases k5:p.E8=5
   ·by_cases h:(200:Int)<(p.s.size:Int)
    ·have:¬p.s.size<=200:=by omega
     simp[k5,h,this]
    ·have:p.s.size<=200:=by omega
     simp[k5,h,this]
   by_cases k7:p.E8=7
   ·simp[k7];have:((p.D6.length:Int)=2)↔(p.D6.length=2):=by omega
    simp[this]
   by_cases k9:p.E8=9
   ·simp[k9];have:((p.D6.length:Int)=2)↔(p.D6.length=2):=by omega
    simp[this]
   simp[k1,k2,k3,k4,k5,k6,k7,k8,k9]
def A64(t:F5):∀(l:List ByteArray)(sg:List E5),l.length+t.size<=R9->C9.r Ww [(t.D9,.val),(DW l,.own)] sg=some ([DW (t.GM l)],sg):=by
 induction t using F5.ind with
 |h t ih=>
   intro l sg hl;have hb:=F5.IZ _ (F5.Hm (show t.size<=R9 by omega));have hB:=big hl;refine(A3W _ _ _).trans ?_;have loop:∀l:List ByteArray,l.length+(t.D6.map F5.size).sum<=R9->JQ C9 (DW l) (iI 0) t.D9 sg=some ([DW (t.D6.foldl (λl k=>k.GM l) l)],sg) :=
    A2V (l:=t.D6) (P:=λi (a:List ByteArray)=>JQ C9 (DW a) (iI i) t.D9 sg) (g:=λa k=>k.GM a) (fin:=λa=>some ([DW a],sg))
     (I:=λi a=>a.length+((t.D6.drop i).map F5.size).sum<=R9)
     (λa _=>by rw[dW];simp)
     (λi h a ha=>by rw[z4q h,zsq,zPq]at ha;have h1:=F5.xR t.D6[i] a;refine⟨?_,by omega⟩;rw[dW];simp[h,V5 h,F5.BD,F5.ag,ih _ (z3q h) a sg (by omega),Co (show i<9223372036854775807 by omega)])
   have Cw:=F5.size_eq t;rw[A42,F5.nJ];simp;by_cases h6:t.E8=2
   ·simp[h6];rw[show DW l=.list 1 (l.map λn=>.str n)from rfl,Kn (by simp;omega)];have:=loop (l++[t.name]) (by simp;omega);simpa[DW]using this
   ·simp[h6,loop l (by omega)]
def A62(t:F5)(ht:t.size<=R9):C9.p fV [t.D9]=some (DW t.names):=by refine(A3U _).trans ?_;rw[A40];have:=A64 t [] [] (by simpa using ht);have e:DW []=.list 1 []:=rfl;rw[e]at this;simp[F5.BD,F5.ag,this,F5.names]
variable (l:List ByteArray)(n:ByteArray)
def YM:Bool:=l.any λx=>decide (x=n)
def au{l:List ByteArray}{n:ByteArray}:YM l n=true↔n∈l:=by simp[YM]
def B0q(hl:l.length<=R9)(n:ByteArray):C9.p qo [DW l,.str n]=some (.bool (YM l n)):=by
 have hb:=big hl;refine(A7C _ _).trans ?_;rw[A9s];have loop:=B1y (l:=l) (f:=λx=>decide (x=n)) (P:=λi=>UF C9 (DW l) (.str n) (iI i))
  (by rw[pI];simp)
  (λi h=>by rw[pI];simp[h,A2A h,Co (show i<9223372036854775807 by omega)])
 exact loop
def A9l{α : Type}{e : α->DV}{l:List α}{i:Nat}(h:i<=l.length)(sz:Nat):Nv sz (.list sz (l.map e)) none (some (iI (i:Int)))=some (.list sz ((l.take i).map e)):=by simp[Nv,bnd,h,List.map_take]
def A90{α : Type}[DecidableEq α](l:List α):(∀(i:Nat)(h:i<l.length),l[i]∉l.take i)↔l.Nodup:=by
 constructor
 ·intro h;rw[zVq,zYq];intro i j hi hj RP he;exact h j hj (by rw[<- he];exact zZq.2 ⟨i,by omega,rfl⟩)
 ·intro h i hi hm;obtain⟨j,hj,he⟩:=zZq.1 hm;rw[zVq,zYq]at h;exact h j i (by omega) hi (by omega) he
open Classical in
def A08(ht:p.size<=R9)(hx:p.txt):C9.p Vx [p.D9]=some (.bool p.right):=by
 refine(yG _).trans ?_;rw[A0f];have eD:p.names.length<=R9:=by have:=F5.xR p [];simp at this;unfold F5.names;omega
 have hb:=big eD;simp[F5.BD,F5.ag,B0s p (F5.Hm ht) hx,A62 p ht,F5.right];cases hp:p.pat
 ·simp
 ·simp;have loop:∀(k i:Nat),i+k=p.names.length->Lu C9 (DW p.names) (iI i)=some (.bool (decide (∀j (h:j<p.names.length),i<=j->p.names[j]∉p.names.take j))):=by
   intro k;induction k with
   |zero=>
     intro i hi;rw[Xh];have:¬i<p.names.length:=by omega
     have h2:∀j (h:j<p.names.length),i<=j->p.names[j]∉p.names.take j:=λj h h'=>by omega
     simp[this];exact h2
   |succ k ih=>
     intro i hi;have h:i<p.names.length:=by omega
     have nx:=ih (i+1) (by omega);push_cast at nx;rw[Xh];have sl:Nv 1 (DW p.names) none (some (iI (i:Int)))=some (DW (p.names.take i)):=A9l (by omega) 1;simp[h,sl,A2A h,B0q (p.names.take i) (by simp;omega),Co (show i<9223372036854775807 by omega),nx];by_cases hm:p.names[i]∈p.names.take i
     ·simp only[au.2 hm,F6,sF]
      congr 2;symm;rw[Ph];exact λhh=>hh i h (zfq _) hm
     ·have Vs:¬(YM (p.names.take i) p.names[i]=true):=λh=>hm (au.1 h);have B8B:YM (p.names.take i) p.names[i]=false:=by simpa using Vs
      simp only[B8B,z1q,G8]
      congr 2;rw[decide_eq_decide];constructor
      ·intro hh j hj RP;rcases Nat.lt_or_ge i j with h1 | h1
       ·exact hh j hj h1
       ·have:i=j:=by omega
        subst this;exact hm
      ·intro hh j hj RP;exact hh j hj (by omega)
  have l0:=loop p.names.length 0 (by omega);simp only[zFq,zOq,ztq]at l0;rw[l0];congr 2;rw[decide_eq_decide,<- A90];simp
variable (es:List (DV×DV))
def A4H(s:ByteArray):DV:=(Y1 es (.str s)).getD (iI 0)
def aD(a b c e:E5)(n:Int)(es:List (DV×DV)):List E5:=[a,.box [(iI n,.val)],.map true es,.box [(.undef,.map 2)],e]
theorem B0W(t0 t6:DV)(a b c e:E5)(n:Int)(es:List (DV×DV)):A_ C9 t0 t6 .ret (aD a b c e n es)=some (iI n):=by rw[ZA];rfl
theorem B4G(t0 t6:DV)(a b c e:E5)(n:Int)(es:List (DV×DV)):A_ C9 t0 t6 .normal (aD a b c e n es)=some (iI 0):=by rw[WM];rfl
def A2x(t0 t6:DV)(a b c e:E5):∀(ps:List F5)(pre:List ByteArray)(es:List (DV×DV)),(∀q∈ps,q.texts)->pre.Nodup->(∀s,A4H es s=.int .i64 (if YM pre s=true then 1 else 0))->
 Ea C9 t0 t6 (ps.map F5.D9) (aD a b c e 0 es)=some (iI (if ps.all F5.one=true/\(pre++ps.flatMap YQ).Nodup then 0 else 1))
 |[],pre,es,_,hn,_=>by rw[zuq,fo,B4G];simp[hn]
 |q::ps,pre,es,hx,hn,hc=>by
   rw[zsq,b_,jA];have hq:=hx q (znq ..);simp only[LA,F8,F5.pj,F5.BD,F5.ag,A2e q hq,M4,U1,Q4,BJ];have K6:H5 (aD a b c e 0 es) 1=some [(iI 0,.val)]:=rfl;have bS:H5 (aD a b c e 0 es) 3=some [(.undef,.map 2)]:=rfl;have set1:(aD a b c e 0 es).set 1 (.box ([((iI 0:DV),F4.val)].set 0 (iI 1,.val)))=aD a b c e 1 es:=rfl;have g0:[((iI 0:DV),F4.val)][0]?=some (iI 0,.val):=rfl;have cm:Bp [((.undef:DV),F4.map 2)] 0=some 2:=rfl;have sm:S9 (aD a b c e 0 es) 2=some (true,es):=rfl;cases h1:q.one
   ·simp only[z9q,F6,K6,M4,g0,set1,B0W]
    simp[h1]
   ·simp only[z5q,z1q,G8]
    have rest:∀(pre':List ByteArray)(es':List (DV×DV)),pre'.Nodup->(∀s,A4H es' s=.int .i64 (if YM pre' s=true then 1 else 0))->
     Ea C9 t0 t6 (ps.map F5.D9) (aD a b c e 0 es')=some (iI (if ps.all F5.one=true/\(pre'++ps.flatMap YQ).Nodup then 0 else 1)) :=
     λpre' es' h h'=>A2x t0 t6 a b c e ps pre' es' (λx Dr=>hx x (zpq _ Dr)) h h'
    rw[sJ];simp only[F5.CJ,F5.L_,BJ,M4,F3,I9]
    by_cases h2:q.E8=2
    ·have hcq:=hc q.name;unfold A4H at hcq;have sm':(aD a b c e 0 es).set 2 (.map true (Bt es (.str q.name) (iI 1)))=aD a b c e 0 (Bt es (.str q.name) (iI 1)):=rfl;simp only[h2,F6,bS,M4,cm,B1n,ysq,F8,sm,BEq.rfl,hcq,EQ,F3,I9]
     by_cases h3':YM pre q.name=true
     ·have h3:=au.1 h3';simp only[h3',F6,show(0:Int)<1 by omega,K3,K6,M4,g0,set1,B0W]
      have:¬(pre++(q::ps).flatMap YQ).Nodup:=by simp only[y3q,YQ,h2,F6,y8q,y4q];rintro⟨-,-,h⟩;exact h q.name h3 q.name (znq ..) rfl
      rw[A7 (λh=>this h.2)]
     ·have h3:q.name∉pre:=λh=>h3' (au.2 h);simp only[h3',G8,show ¬(0:Int)<0 by omega,R5,z1q]
      rw[WH (by omega) (by omega)];simp only[M4,Int.zero_add];rw[sm',rest (pre++[q.name]) _ (by rw[y4q];refine⟨hn,by simp,?_⟩;rintro x Dr y hy rfl;simp at hy;exact h3 (hy ▸ Dr)) ?_]
      ·simp[y3q,YQ,h2,h1]
      ·intro s;unfold A4H;rw[B3k];have:=hc s;unfold A4H at this;by_cases h4:q.name=s
       ·have:YM (pre++[q.name]) s=true:=au.2 (by simp[h4]);rw[C8 h4,C8 this];rfl
       ·have e:YM (pre++[q.name]) s=YM pre s:=by simp[YM,h4]
        simp only[A7 h4,e];exact this
    ·simp only[h2,G8]
     rw[rest pre es hn hc];simp[y3q,YQ,h2,h1]
def bY(ht:p.thin=true)(hx:p.txt):C9.p Oo [p.D9]=some (iI (if p.right=true then 0 else 1)):=by
 refine(vY _).trans ?_;rw[yB];simp only[LA,F8,F5.pj,F5.BD,F5.ag];rw[qW];obtain⟨n,hn⟩:=B2X p ht;rw[F5.O4]at hn;simp only[H5,zAq,zBq,M4,MJ,F8,A5q hn];have:=A2x p.D9 p.D9 (.box [(iI p.E8,.val),(iI p.lo,.val),(iI p.hi,.val),(.str p.name,.val),(iI p.n,.val),(.str p.s,.val),(.list 7 (p.D6.map F5.D9),.val)])
  (.arr 1 []) (.arr 1 []) (.arr 1 []) p.subs [] [] (λq hq=>hx q hq) (by simp) (λs=>rfl)
 refine this.trans ?_;congr 2;have e:p.right=true↔(p.subs.all F5.one=true/\(([]:List ByteArray)++p.subs.flatMap YQ).Nodup):=by unfold F5.right F5.names;rw[F5.B3t,F5.A54];simp
 by_cases h:p.right=true
 ·rw[C8 h,C8 (e.1 h)]
 ·rw[A7 h,A7 (λh'=>h (e.2 h'))]
def A70:∀(i:Nat)(out:List Int)(sg:List E5)(es:List (DV×DV))(c:Int->Int)(B:Int),S9 sg i=some (false,es)->SA es c->(∀v,0<=c v/\c v<=B)->(∀v,c v=0↔v∉out)->B+t.Dk<=4611686018427387904->
 out.length+t.Dk<=R9->t.thin=true->∃es' c',C9.r Y_ [(t.D9,.val),(.undef,.map i),(Q0 out,.own)] sg=some ([Q0 (t.Dj out)],sg.set i (.map false es'))/\SA es' c'/\(∀v,0<=c' v/\c' v<=B+t.Dk)/\(∀v,c' v=0↔v∉t.Dj out):=by
 induction t using Ty.ind with
 |h t ih=>
   intro i out sg es c B hm hc hb hz hB hl Xt;have GZ:=t.IZ Xt;have Cw:=Ty.uY t;have hi:=A6I hm;have loop:∀(n j:Nat)(out:List Int)(es:List (DV×DV))(c:Int->Int)(B:Int),j+n=t.D6.length->SA es c->(∀v,0<=c v/\c v<=B)->(∀v,c v=0↔v∉out)->B+((t.D6.drop j).map Ty.Dk).sum<=4611686018427387904->out.length+((t.D6.drop j).map Ty.Dk).sum<=R9->
    ∃es' c',SS C9 i (Q0 out) (.list 3 (t.D6.map Ty.D9)) (iI t.D6.length) (iI j) (sg.set i (.map false es))=some ([Q0 ((t.D6.drop j).foldl (λl k=>k.Dj l) out)],sg.set i (.map false es'))/\SA es' c'/\(∀v,0<=c' v/\c' v<=B+((t.D6.drop j).map Ty.Dk).sum) /\(∀v,c' v=0↔v∉(t.D6.drop j).foldl (λl k=>k.Dj l) out):=by
    intro n;induction n with
    |zero=>
      intro j out es c B hj hc hb hz hB hl;have:¬j<t.D6.length:=by omega
      rw[jU,z8q (by omega)];refine⟨es,c,by simp[this],hc,λv=>⟨(hb v).1,by simpa using(hb v).2⟩,by simpa using hz⟩
    |succ n ihn=>
      intro j out es c B hj hc hb hz hB hl;have h:j<t.D6.length:=by omega
      rw[z4q h]at hB hl ⊢;simp only[zsq,zPq,List.foldl_cons]at hB hl ⊢;obtain⟨es1,c1,h1,h2,h3,h4⟩:=ih _ (z3q h) i out (sg.set i (.map false es)) es c B (B1Z hi _ _) hc hb hz (by omega) (by omega) (Ty.IY Xt (z3q h));have hv:=Ty.A74 t.D6[j] out;obtain⟨es2,c2,k1,k2,k3,k4⟩:=ihn (j+1) (t.D6[j].Dj out) es1 c1 (B+t.D6[j].Dk) (by omega) h2 h3 h4 (by omega) (by omega);refine⟨es2,c2,?_,k2,λv=>⟨(k3 v).1,by have:=(k3 v).2;omega⟩,k4⟩;rw[jU];rw[zIq]at h1;simp[h,V5 h,Ty.BD,Ty.ag,h1,Co (show j<9223372036854775807 by omega)];push_cast at k1;exact k1
   have fin:∀(out:List Int)(es:List (DV×DV))(c:Int->Int)(B:Int),SA es c->(∀v,0<=c v/\c v<=B)->(∀v,c v=0↔v∉out)->B+(t.D6.map Ty.Dk).sum<=4611686018427387904->out.length+(t.D6.map Ty.Dk).sum<=R9->
    ∃es' c',Pd C9 i (Q0 out) t.D9 (sg.set i (.map false es))=some ([Q0 (t.D6.foldl (λl k=>k.Dj l) out)],sg.set i (.map false es'))/\SA es' c'/\(∀v,0<=c' v/\c' v<=B+(t.D6.map Ty.Dk).sum)/\(∀v,c' v=0↔v∉t.D6.foldl (λl k=>k.Dj l) out):=by
    intro out es c B hc hb hz hB hl;have:=loop t.D6.length 0 out es c B (by omega) hc hb hz (by simpa using hB) (by simpa using hl);simp only[zcq]at this;obtain⟨es',c',k1,k2⟩:=this;refine⟨es',c',?_,k2⟩;rw[A3J];simp;exact k1
   rw[Ty.uX];by_cases h6:t.E8=6
   ·rw[C8 h6]at Cw;have hcv:=hc t.n;by_cases hn:t.n∈out
    ·have tJ:c t.n≠0:=λh=>(hz t.n).1 h hn;obtain⟨es',c',k1,k2,k3,k4⟩:=fin out (Bt es (iI t.n) (iI (c t.n+1))) _ (B+1) (hc.set t.n (c t.n+1)) (λv=>by
      have:=hb v;have:=hb t.n;by_cases e:t.n=v<;>simp[e]<;>omega) (λv=>by
      by_cases e:t.n=v
      ·subst e;simp[hn];have:=hb t.n;omega
      ·simp[e,hz v]) (by omega) (by omega)
     refine⟨es',c',(aQ _ _ _ _).trans ?_,k2,λv=>⟨(k3 v).1,by have:=(k3 v).2;omega⟩,by simpa[h6,hn]using k4⟩;rw[gL];have ha:=hb t.n;have YL:D7 .add (iI (c t.n)) (iI 1)=some (iI (c t.n+1)):=WH (by omega) (by omega);simp[h6,hm,hcv,tJ,YL,k1,hn]
    ·have tJ:c t.n=0:=(hz t.n).2 hn;obtain⟨es',c',k1,k2,k3,k4⟩:=fin (out++[t.n]) (Bt es (iI t.n) (iI (c t.n+1))) _ (B+1) (hc.set t.n (c t.n+1)) (λv=>by
      have:=hb v;have:=hb t.n;by_cases e:t.n=v<;>simp[e]<;>omega) (λv=>by
      by_cases e:t.n=v
      ·subst e;simp;have:=hb t.n;omega
      ·simp only[e,G8,hz v,zqq,zgq];rw[not_or];exact⟨λh=>⟨h,λh'=>e h'.symm⟩,λh=>h.1⟩) (by omega) (by simp;omega)
     refine⟨es',c',(aQ _ _ _ _).trans ?_,k2,λv=>⟨(k3 v).1,by have:=(k3 v).2;omega⟩,by simpa[h6,hn]using k4⟩;rw[gL];have ha:=hb t.n;have YL:D7 .add (iI (c t.n)) (iI 1)=some (iI (c t.n+1)):=WH (by omega) (by omega);have B8s:EP 1 (Q0 out) (.list 1 [iI t.n])=some (Q0 (out++[t.n])):=B2M (e:=λn=>DV.int .i64 n) (by omega);rw[tJ]at hcv YL;rw[tJ]at k1;rw[show(0:Int)+1=1 from rfl]at YL k1;simp[h6,hm,hcv,B8s,YL,hn,k1]
   ·rw[A7 h6]at Cw;obtain⟨es',c',k1,k2,k3,k4⟩:=fin out es c B hc hb hz (by omega) (by omega);refine⟨es',c',(aQ _ _ _ _).trans ?_,k2,λv=>⟨(k3 v).1,by have:=(k3 v).2;omega⟩,by simpa[h6]using k4⟩;rw[gL];rw[B3E hm]at k1;simp[h6,k1]
def xf(Xt:t.thin=true)(ht:t.Dk<=R9):C9.p Yz [t.D9]=some (Q0 t.vars):=by refine(A5o _).trans ?_;rw[A7y];obtain⟨es',c',h,-⟩:=A70 t 0 [] [.map false []] [] (λ_=>0) 0 rfl SA.nil (by simp) (by simp) (by unfold R9 at ht;omega) (by simpa using ht) Xt;have e:Q0 []=.list 1 []:=rfl;rw[e]at h;simp[Ty.BD,Ty.ag,h,Ty.vars]
variable (l:List Int)
def A09(hl:l.length<=R9)(n:Int):∃k:Int,C9.p KH [Q0 l,iI n]=some (iI k)/\(0<=k↔n∈l):=by
 have hb:=big hl;have loop:∀(m i:Nat),i+m=l.length->∃k:Int,EI C9 (Q0 l) (iI n) (iI l.length) (iI i)=some (iI k)/\(0<=k↔n∈l.drop i):=by
  intro m;induction m with
  |zero=>
    intro i hi;have:¬i<l.length:=by omega
    rw[Mv];exact⟨-1,by simp[this],by simp[z8q (show l.length<=i by omega)]⟩
  |succ m ihm=>
    intro i hi;have h:i<l.length:=by omega
    rw[Mv,z4q h];by_cases e:n=l[i]
    ·exact⟨i,by simp[h,dM h,e],⟨λ_=>by rw[e];exact znq ..,λ_=>by omega⟩⟩
    ·obtain⟨k,h1,h2⟩:=ihm (i+1) (by omega);push_cast at h1;refine⟨k,by simp[h,dM h,e,Co (show i<9223372036854775807 by omega),h1],?_⟩;rw[h2,zoq];simp[e]
 obtain⟨k,h1,h2⟩:=loop l.length 0 (by omega);refine⟨k,(ZF _ _).trans ?_,by simpa using h2⟩;rw[aL];simpa using h1
def uP(hl:l.length<=R9)(n:Int):C9.p CW [Q0 l,iI n]=some (.bool (decide (n∈l))):=by refine(WN _ _).trans ?_;rw[Xi];obtain⟨k,h1,h2⟩:=A09 l hl n;simp[h1,h2]
variable (n:Int)
def Ty.B40(a b:Ty):DV.agg [iI k,iI n,.list 3 [a.D9,b.D9]]=(Ty.mk k n [a,b]).D9:=(Ty.O4 (.mk k n [a,b])).symm
def B0p(a b:Ty):C9.p cu [iI k,a.D9,b.D9]=some (Ty.mk k 0 [a,b]).D9:=by refine(A7B _ _ _).trans ?_;rw[A9r];simp[Ty.BD,Ty.ag,Ty.B40]
def J6.fit(d:J6):Prop:=d.types.length<R9/\d.vars.length<R9/\d.D6.length<R9/\(∀t∈d.types,t.thin=true)/\∀k:{ x // x∈d.D6 },J6.fit k.1
termination_by SizeOf.sizeOf d
decreasing_by exact J6.Jk k.2
def J6.B1f(d:J6):d.fit↔d.types.length<R9/\d.vars.length<R9/\d.D6.length<R9/\(∀t∈d.types,t.thin=true)/\∀k∈d.D6,k.fit:=by rw[J6.fit];simp
def A6X(a b:List Int)(hl:a.length<=R9):C9.p fM [Q0 a,Q0 b]=some (.bool (decide (a=b))):=by
 have hb:=big hl;refine(A3M _ _).trans ?_;rw[A4Q];simp;by_cases h3:a.length=b.length
 ·have loop:=bH (l:=a) (m:=b) h3 (P:=λi=>QX C9 (Q0 a) (Q0 b) (iI i)) (y:=.bool true) (n:=.bool false)
   (by rw[dN];simp[h3])
   (λi h=>by
     have h':i<b.length:=by omega
     rw[dN];by_cases hh:a[i]=b[i]<;>simp[h,h',dM h,dM h',hh,Co (show i<9223372036854775807 by omega)])
  simp only[h3]at loop ⊢;simp[loop];by_cases h4:a=b<;>simp[h4]
 ·have:a≠b:=λh=>h3 (by rw[h]);simp[zTq,h3,this]
def A06(a b:List Ty)(hl:a.length<=R9)(ha:∀t∈a,t.thin=true):C9.p Vw [.list 3 (a.map Ty.D9),.list 3 (b.map Ty.D9)]=some (.bool (decide (a=b))):=by
 have hb:=big hl;refine(yF _ _).trans ?_;rw[A0c];simp;by_cases h3:a.length=b.length
 ·have loop:=bH (l:=a) (m:=b) h3 (P:=λi=>Ls C9 (.list 3 (a.map Ty.D9)) (.list 3 (b.map Ty.D9)) (iI i)) (y:=.bool true) (n:=.bool false)
   (by rw[Xe];simp[h3])
   (λi h=>by
     have h':i<b.length:=by omega
     rw[Xe];simp[h,h',V5 h,V5 h',Ty.BD,Ty.ag,bW _ (ha _ (z3q h)),Co (show i<9223372036854775807 by omega)])
  simp only[h3]at loop ⊢;simp[loop];by_cases h4:a=b<;>simp[h4]
 ·have:a≠b:=λh=>h3 (by rw[h]);simp[zTq,h3,this]
def A2b(a:J6):a.fit->∀b:J6,C9.p SB [a.D9,b.D9]=some (.bool (decide (a=b))):=by
 induction a using J6.ind with
 |h a ih=>
   intro ha b;have hf:=(J6.B1f a).1 ha;have hb:=big (zCq hf.2.2.1);refine(A0p _ _).trans ?_;rw[A1l];simp[A06 _ _ (zCq hf.1) hf.2.2.2.1,A6X _ _ (zCq hf.2.1)];by_cases h1:a.types=b.types<;>simp[h1,J6.aO];by_cases h2:a.vars=b.vars<;>simp[h2];by_cases h3:a.D6.length=b.D6.length
   ·have loop:=bH (l:=a.D6) (m:=b.D6) h3 (P:=λi=>NF C9 (iI i) a.D9 b.D9) (y:=.bool true) (n:=.bool false)
     (by rw[Yf];simp[h3])
     (λi h=>by
       have h':i<b.D6.length:=by omega
       rw[Yf];simp[h,h',V5 h,V5 h',J6.BD,J6.ag,ih _ (z3q h) (hf.2.2.2.2 _ (z3q h)),Co (show i<9223372036854775807 by omega)])
    simp only[h3]at loop ⊢;simp[loop];by_cases h4:a.D6=b.D6<;>simp[h4]
   ·have:a.D6≠b.D6:=λh=>h3 (by rw[h]);simp[zTq,h3,this]
def Ag(np:Nat):DV:=.agg [.bool (AQ k),.bool (Bl k),.bool (eN k),.bool (eS k),.bool (Dq k),.bool (eA k),.bool (eB k),.bool (Ao k),iI (O5 k np)]
variable (t:Ex)
def A1a(ht:t.Sm):∃d,C9.p Vy [t.D9]=some (.J9 [d,.bool (Jf t.E8 t.J8.length)])/\(Jf t.E8 t.J8.length=true->d=Ag t.E8 t.J8.length)/\I7 9 d=true:=by
 have hp:=big (zCq ht.J8);suffices h:∃d,WA C9 t.D9=some (.J9 [d,.bool (Jf t.E8 t.J8.length)])/\(Jf t.E8 t.J8.length=true->d=Ag t.E8 t.J8.length)/\I7 9 d=true by obtain⟨d,h1,h2⟩:=h;exact⟨d,vR _ h1,h2⟩
 rw[A0h];have fl:∀{a b c d e f g h:Bool}{n:Int},I7 9 (.agg [.bool a,.bool b,.bool c,.bool d,.bool e,.bool f,.bool g,.bool h,iI n])=true:=rfl;by_cases k14:t.E8=14
 ·have h1:D7 .add (iI (t.J8.length:Int)) (iI 1)=some (iI ((t.J8.length:Int)+1)):=WH (by omega) (by omega);simp[k14,h1,Jf,Ag,AQ,Bl,eN,eS,Dq,eA,eB,Ao,O5,fl]
 by_cases k1:t.E8=1
 ·simp[k1,Jf,Ag,AQ,Bl,eN,eS,Dq,eA,eB,Ao,O5,fl]
 by_cases k2:t.E8=2
 ·simp[k2,Jf,Ag,AQ,Bl,eN,eS,Dq,eA,eB,Ao,O5,fl]
 by_cases k3:t.E8=3
 ·simp[k3,Jf,Ag,AQ,Bl,eN,eS,Dq,eA,eB,Ao,O5,fl]
 by_cases k4:t.E8=4
 ·simp[k4,Jf,Ag,AQ,Bl,eN,eS,Dq,eA,eB,Ao,O5,fl]
 by_cases k5:t.E8=5
 ·simp[k5,Jf,Ag,AQ,Bl,eN,eS,Dq,eA,eB,Ao,O5,fl]
 by_cases k6:t.E8=6
 ·simp[k6,Jf,Ag,AQ,Bl,eN,eS,Dq,eA,eB,Ao,O5,fl]
 by_cases k7:t.E8=7
 ·simp[k7,Jf,Ag,AQ,Bl,eN,eS,Dq,eA,eB,Ao,O5,fl]
 by_cases k8:t.E8=8
 ·simp[k8,Jf,Ag,AQ,Bl,eN,eS,Dq,eA,eB,Ao,O5,fl]
 by_cases k9:t.E8=9
 ·simp[k9,Jf,Ag,AQ,Bl,eN,eS,Dq,eA,eB,Ao,O5,fl]
 by_cases k10:t.E8=10
 ·simp[k10,Jf,Ag,AQ,Bl,eN,eS,Dq,eA,eB,Ao,O5,fl]
 by_cases k11:t.E8=11
 ·simp[k11,Jf,Ag,AQ,Bl,eN,eS,Dq,eA,eB,Ao,O5,fl]
 by_cases k12:t.E8=12
 ·simp[k12,Jf,Ag,AQ,Bl,eN,eS,Dq,eA,eB,Ao,O5,fl]
 by_cases k13:t.E8=13
 ·simp[k13,Jf,Ag,AQ,Bl,eN,eS,Dq,eA,eB,Ao,O5,fl]
 by_cases k15:t.E8=15
 ·simp[k15,Jf,Ag,AQ,Bl,eN,eS,Dq,eA,eB,Ao,O5,fl]
 by_cases k16:t.E8=16
 ·simp[k16,Jf,Ag,AQ,Bl,eN,eS,Dq,eA,eB,Ao,O5,fl]
 ·have hk:Jf t.E8 t.J8.length=false:=by unfold Jf;rw[zQq];intro h;simp only[zLq,I9]at h;omega
  simp[hk,k1,k2,k3,k4,k5,k6,k7,k8,k9,k10,k11,k12,k13,k14,k15,k16,fl]
variable (t:Ty)
def uQ:C9.p OG [t.D9]=some (.bool t.none):=by refine(A3Y _).trans ?_;rw[A46];simp[Ty.none];by_cases h1:t.E8=0<;>by_cases h2:t.n=0<;>simp[h1,h2]
def kZ(ht:t.thin=true):C9.p SF [t.D9]=some (.bool t.closed):=by refine(A0s _).trans ?_;rw[A1q];simp[Ty.BD,Ty.ag,uR t ht,qB t ht,Ty.closed];cases t.right<;>simp
def A7Z(t:Ex)(ht:t.Sm):C9.p lC [t.D9]=some (.bool t.one):=by
 refine(A5n _).trans ?_;obtain⟨d,h1,h2,h3⟩:=A1a t ht;have hp:=big (zCq ht.J8);rw[A7x];have x0:∀b,Q3 0 (.J9 [d,.bool b])=some d:=λ_=>rfl;have x1:∀b,Q3 1 (.J9 [d,.bool b])=some (.bool b):=λ_=>rfl;simp only[AJ,F8,Ex.pj,Ex.BD,Ex.ag,Ty.BD,Ty.ag,h1,x0,x1,M4,h3,U1,Q4];cases hk:Jf t.E8 t.J8.length
 ·simp[Ex.one,hk]
 rw[h2 hk];have p0:A9 0 (Ag t.E8 t.J8.length)=.bool (AQ t.E8):=rfl;have p1:A9 1 (Ag t.E8 t.J8.length)=.bool (Bl t.E8):=rfl;have p2:A9 2 (Ag t.E8 t.J8.length)=.bool (eN t.E8):=rfl;have p3:A9 3 (Ag t.E8 t.J8.length)=.bool (eS t.E8):=rfl;have p4:A9 4 (Ag t.E8 t.J8.length)=.bool (Dq t.E8):=rfl;have p5:A9 5 (Ag t.E8 t.J8.length)=.bool (eA t.E8):=rfl;have p6:A9 6 (Ag t.E8 t.J8.length)=.bool (eB t.E8):=rfl;have p7:A9 7 (Ag t.E8 t.J8.length)=.bool (Ao t.E8):=rfl;have p8:A9 8 (Ag t.E8 t.J8.length)=.int .i64 (O5 t.E8 t.J8.length):=rfl;have l:=Xy (l:=t.J8) (f:=F5.right) (P:=λi=>Qd C9 (.list 7 (t.J8.map F5.D9)) (iI t.J8.length) (iI i))
  (by rw[dX];simp)
  (λi h=>by rw[dX];have f:=ht.pat _ (z3q h);simp[h,V5 h,F5.BD,F5.ag,bY _ (F5.yE f) f.txt,Co (show i<9223372036854775807 by omega)];cases t.J8[i].right<;>rfl)
 have h18:SQ C9 t.D9=some (.bool t.A1V):=by rw[A1w];simp only[Ex.A0T,Gz,zbq,M4];exact l
 have h16:KP C9 t.D9 (Ag t.E8 t.J8.length)=some (.bool t.uE):=by rw[A1v];simp only[p6,Ex.B1M,Ex.B1N,Ex.B1O,Ty.BD,Ty.ag,uQ,kZ _ ht.b,h18,M4,U1,Q4,F3,Ex.uE,XE];cases t.b.none<;>cases eB t.E8<;>cases t.b.closed<;>simp
 have h14:KN C9 t.D9 (Ag t.E8 t.J8.length)=some (.bool t.iC):=by rw[A1u];simp only[p5,p7,Ex.A97,Ex.B4o,Ex.B1L,Ty.BD,Ty.ag,uQ,kZ _ ht.a,h16,M4,U1,Q4,F3,Ex.iC,XE];cases t.a.none<;>cases eA t.E8<;>cases t.a.closed<;>cases Ao t.E8<;>simp
 have h12:SN C9 t.D9 (Ag t.E8 t.J8.length)=some (.bool t.yf):=by
  rw[A1t];simp only[p4,Ex.A96,h14,M4,U1,Q4,F3,EQ,GD,Dm,Ex.yf];cases Dq t.E8
  ·by_cases v:t.op=0<;>simp[v]
  ·by_cases a:t.op<1
   ·simp[a,show ¬ 1<=t.op by omega]
   ·by_cases p:7<t.op
    ·simp[a,p,show ¬t.op<=7 by omega]
    ·simp[a,p,show 1<=t.op by omega,show t.op<=7 by omega]
 have hs:∀n:Nat,D7 .gtr (iI (n:Int)) (iI 200)=some (.bool (decide (200<n))):=λn=>by rw[EQ];congr 2;rw[decide_eq_decide];omega
 have Ym:FX C9 t.D9 (Ag t.E8 t.J8.length)=some (.bool t.yc):=by
  rw[A1s];simp only[p3,Ex.nQ,h12,M4,U1,Q4,F3,FY,hs,Bq,TF,Ex.yc];generalize t.s.size=z;by_cases a:200<z
  ·have:¬z<=200:=by omega
   cases eS t.E8<;>by_cases v:t.s=Z5<;>simp[a,v,this]
  ·have:z<=200:=by omega
   cases eS t.E8<;>by_cases v:t.s=Z5<;>simp[a,v,this]
 have h8:MF C9 t.D9 (Ag t.E8 t.J8.length)=some (.bool t.yZ):=by rw[A3G];simp only[p2,Ex.vL,Ex.CJ,Ym,M4,U1,Q4,F3,Dm,BJ,Ex.yZ];cases eN t.E8<;>by_cases v:t.E8=3<;>by_cases x:t.n=0<;>by_cases y:t.n=1<;>simp[v,x,y]
 have h6:ME C9 t.D9 (Ag t.E8 t.J8.length)=some (.bool t.yY):=by
  rw[A3F];simp only[p1,Ex.ed,h8,bZ t.arg (by have:=ht.arg;unfold R9;omega),M4,U1,Q4,F3,TF,Bq,Ex.yY,Xz]
  cases Bl t.E8
  ·by_cases v:t.arg=Z5<;>simp[v]
  ·cases KA t.arg<;>simp
 have h4:UL C9 t.D9 (Ag t.E8 t.J8.length)=some (.bool t.yX):=by
  rw[A3E];simp only[p0,Ex.L_,h6,bZ t.name (by have:=ht.name;unfold R9;omega),M4,U1,Q4,F3,TF,Bq,Ex.yX,Xz]
  cases AQ t.E8
  ·by_cases v:t.name=Z5<;>simp[v]
  ·cases KA t.name<;>simp
 have hg:D7 .gtr (iI (t.J8.length:Int)) (iI 0)=some (.bool (!decide (t.J8.length=0))):=by
  rw[EQ];congr 2;by_cases h:t.J8.length=0
  ·simp[h]
  ·have:(0:Int)<(t.J8.length:Int):=by omega
   simp[h];omega
 simp only[p8,h4,Gz,zbq,M4,Q4,F3,Dm,hg,Ex.one,hk];generalize O5 t.E8 t.J8.length=ek;by_cases v:(t.D6.length:Int)=ek<;>by_cases w:t.E8=14<;>by_cases u:t.J8.length=0<;>simp[v,w,u]
def B7w(a c:E5)(n:Int):List E5:=[a,.box [(iI n,.val)],c]
def A3t(t0 t4:DV)(a c:E5):∀(ps:List Ex),(∀q∈ps,q.Sm)->
 Ke C9 t0 t4 (ps.map Ex.D9) (B7w a c 0)=some (iI (if ps.all Ex.one=true then 0 else 1))
 |[],_=>by rw[zuq,qD,ZB];rfl
 |q::ps,h=>by
   rw[zsq,lF,rV];have hq:=A7Z q (h q (znq ..));have ih:=A3t t0 t4 a c ps λx hx=>h x (zpq _ hx);simp only[AJ,F8,Ex.pj,Ex.BD,Ex.ag,hq,M4,U1,F3,ih,y7q];rcases Bool.eq_false_or_eq_true q.one with hq1 | hq1;rotate_left
   ·have K6:H5 (B7w a c 0) 1=some [(iI 0,.val)]:=rfl;have g0:[((iI 0:DV),F4.val)][0]?=some (iI 0,.val):=rfl;simp only[hq1,z9q,F6,K6,M4,g0];rw[gG];rfl
   ·simp[hq1]
def Sg(t:Ex)(ht:t.fit):C9.p Tn [t.D9]=some (iI (if t.right=true then 0 else 1)):=by refine(A1C _).trans ?_;rw[A3C];simp only[AJ,F8,Ex.pj,Ex.BD,Ex.ag];rw[yC];obtain⟨n,hn⟩:=B4O t ht;rw[Ex.O4]at hn;simp only[H5,zAq,zBq,M4,MJ,F8,A5q hn];rw[Ex.B0e];exact A3t _ _ _ _ t.subs λq hq=>(Ex.B4M ht q hq).one
def A7X:C9.p k_ [t.D9]=some (.bool t.none):=by refine(A5j _).trans ?_;rw[A7t];simp[Ty.none];by_cases h1:t.E8=0<;>by_cases h2:t.n=0<;>simp[h1,h2]
def xe(ht:t.thin=true)(may:Bool):C9.p Yy [t.D9,.bool may]=some (.bool (if t.none=true then may else t.closed)):=by refine(A5m _ _).trans ?_;rw[A7w];simp[Ty.BD,Ty.ag,A7X,A61 t ht,A2d 6 t ht,Ty.closed];cases t.none<;>cases t.right<;>simp
def KJ:Ty:=.mk 0 0 []
def B1F:(t=KJ)↔t.none=true:=Ty.A58.symm
variable (t:Ex)
noncomputable def V6:Ex:=.mk t.E8 0 0 (if AQ t.E8=true then t.name else Z5) (if Bl t.E8=true then t.arg else Z5) (if eN t.E8=true then t.n else 0) (if eS t.E8=true then t.s else Z5) (if Dq t.E8=true then t.op else 0)
 (if eA t.E8=true then t.a else KJ) (if eB t.E8=true then t.b else KJ) (if t.E8=14 then t.J8 else[]) []
def Es:Int:=if 1<=t.E8/\t.E8<=16 then O5 t.E8 t.J8.length else -1
def A38(ht:t.Sm):C9.p Zp [t.D9]=some (.J9 [(V6 t).D9,iI (Es t)]):=by
 have hp:=big (zCq ht.J8);refine(A1A _).trans ?_;rw[A3z,Ex.O4 (V6 t)];by_cases k14:t.E8=14
 ·have h1:D7 .add (iI 1) (iI (t.J8.length:Int))=some (iI ((t.J8.length:Int)+1)):=by rw[lK,GX (by omega) (by omega),Int.add_comm]
  simp[k14,h1,V6,Es,KJ,AQ,Bl,eN,eS,Dq,eA,eB,Ao,O5,Bq]
 by_cases k1:t.E8=1
 ·simp[k1,V6,Es,KJ,AQ,Bl,eN,eS,Dq,eA,eB,Ao,O5,Bq]
 by_cases k2:t.E8=2
 ·simp[k2,V6,Es,KJ,AQ,Bl,eN,eS,Dq,eA,eB,Ao,O5,Bq]
 by_cases k3:t.E8=3
 ·simp[k3,V6,Es,KJ,AQ,Bl,eN,eS,Dq,eA,eB,Ao,O5,Bq]
 by_cases k4:t.E8=4
 ·simp[k4,V6,Es,KJ,AQ,Bl,eN,eS,Dq,eA,eB,Ao,O5,Bq]
 by_cases k5:t.E8=5
 ·simp[k5,V6,Es,KJ,AQ,Bl,eN,eS,Dq,eA,eB,Ao,O5,Bq]
 by_cases k6:t.E8=6
 ·simp[k6,V6,Es,KJ,AQ,Bl,eN,eS,Dq,eA,eB,Ao,O5,Bq]
 by_cases k7:t.E8=7
 ·simp[k7,V6,Es,KJ,AQ,Bl,eN,eS,Dq,eA,eB,Ao,O5,Bq]
 by_cases k8:t.E8=8
 ·simp[k8,V6,Es,KJ,AQ,Bl,eN,eS,Dq,eA,eB,Ao,O5,Bq]
 by_cases k9:t.E8=9
 ·have d1:D7 .sub (iI 9) (iI 9)=some (iI 0):=by rw[Je,GX (by omega) (by omega)];rfl
  have d2:D7 .quo (iI 0) (iI 2)=some (iI 0):=rfl;have d3:D7 .add (iI 1) (iI 0)=some (iI 1):=by rw[lK,GX (by omega) (by omega)];rfl
  simp only[k9,V6,Es,KJ,AQ,Bl,eN,eS,Dq,eA,eB,Ao,O5,Bq,Ex.CJ,AJ,F8,Qm,BJ,M4,F3];simp[aK,d1,d2,d3,k9,Bq]
 by_cases k10:t.E8=10
 ·simp[k10,V6,Es,KJ,AQ,Bl,eN,eS,Dq,eA,eB,Ao,O5,Bq]
 by_cases k11:t.E8=11
 ·have d1:D7 .sub (iI 11) (iI 9)=some (iI 2):=by rw[Je,GX (by omega) (by omega)];rfl
  have d2:D7 .quo (iI 2) (iI 2)=some (iI 1):=rfl;have d3:D7 .add (iI 1) (iI 1)=some (iI 2):=by rw[lK,GX (by omega) (by omega)];rfl
  simp only[k11,V6,Es,KJ,AQ,Bl,eN,eS,Dq,eA,eB,Ao,O5,Bq,Ex.CJ,AJ,F8,Qm,BJ,M4,F3];simp[aK,d1,d2,d3,k11,Bq]
 by_cases k12:t.E8=12
 ·simp[k12,V6,Es,KJ,AQ,Bl,eN,eS,Dq,eA,eB,Ao,O5,Bq]
 by_cases k13:t.E8=13
 ·simp[k13,V6,Es,KJ,AQ,Bl,eN,eS,Dq,eA,eB,Ao,O5,Bq]
 by_cases k15:t.E8=15
 ·simp[k15,V6,Es,KJ,AQ,Bl,eN,eS,Dq,eA,eB,Ao,O5,Bq]
 by_cases k16:t.E8=16
 ·simp[k16,V6,Es,KJ,AQ,Bl,eN,eS,Dq,eA,eB,Ao,O5,Bq]
 ·have hk:¬(1<=t.E8/\t.E8<=16):=by omega
  simp[V6,Es,hk,KJ,AQ,Bl,eN,eS,Dq,eA,eB,k1,k2,k3,k4,k5,k6,k7,k8,k9,k10,k11,k12,k13,k14,k15,k16,Bq]
def Ex.A95:Bool :=
 if t.E8=1\/t.E8=9\/t.E8=11 then KA t.name else if t.E8=12 then KA t.name&&KA t.arg
 else if t.E8=3 then decide (t.n=0)||decide (t.n=1)else if t.E8=4 then decide (t.s.size<=200)
 else if t.E8=14 then decide (0<t.J8.length)else if t.E8=16 then decide (1<=t.op)&&decide (t.op<=7)else true
def Ex.A6c:Bool:=(if t.a.none=true then !decide (t.E8=15)else t.a.closed)&&(if t.b.none=true then true else t.b.closed)&&t.A95
noncomputable def Ex.own:Bool:=decide (Es t=(t.D6.length:Int))&&decide (t.name=(V6 t).name)&&decide (t.arg=(V6 t).arg)&&decide (t.n=(V6 t).n)&&decide (t.s=(V6 t).s)&&decide (t.op=(V6 t).op)&&decide (t.J8.length=(V6 t).J8.length) &&decide (t.a=(V6 t).a)&&decide (t.b=(V6 t).b)&&t.A6c
def B0r(ht:t.Sm):C9.p qp [t.D9]=some (.bool t.own):=by
 refine(A7D _).trans ?_;have x0:∀a b,Q3 0 (.J9 [a,b])=some a:=λ_ _=>rfl;have x1:∀a b,Q3 1 (.J9 [a,b])=some b:=λ_ _=>rfl;have hg:D7 .gtr (iI (t.J8.length:Int)) (iI 0)=some (.bool (decide (0<t.J8.length))):=by rw[EQ];congr 2;rw[decide_eq_decide];omega
 have hs:D7 .leq (iI (t.s.size:Int)) (iI 200)=some (.bool (decide (t.s.size<=200))):=by rw[NL];congr 2;rw[decide_eq_decide];omega
 have h6:fu C9 t.D9=some (.bool t.A6c):=by
  rw[A44];simp only[Ex.pj,Ty.BD,Ty.ag,Dm,BJ,M4,xe _ ht.a,xe _ ht.b,iF t.name ht.name,iF t.arg ht.arg,U1,Q4,F3,FY,hs,Gz,zbq,hg,WI,NL,Ex.A6c,Ex.A95]
  by_cases c1:(if t.a.none=true then !decide (t.E8=15)else t.a.closed)=true
  ·by_cases c2:(if t.b.none=true then true else t.b.closed)=true
   ·simp only[c1,c2,z5q,z1q,G8,zjq]
    by_cases k1:t.E8=1
    ·simp[k1]
    by_cases k9:t.E8=9
    ·simp[k9]
    by_cases k11:t.E8=11
    ·simp[k11]
    by_cases k12:t.E8=12
    ·simp[k12];cases KA t.name<;>simp
    by_cases k3:t.E8=3
    ·simp[k3];by_cases n0:t.n=0<;>simp[n0]
    by_cases k4:t.E8=4
    ·simp[k4]
    by_cases k14:t.E8=14
    ·simp[k14]
    by_cases k16:t.E8=16
    ·simp[k16];by_cases o1:1<=t.op<;>simp[o1]
    simp[k1,k9,k11,k12,k3,k4,k14,k16]
   ·have c2':(if t.b.none=true then true else t.b.closed)=false:=zQq.2 c2;simp only[c1,c2',z5q,z1q,G8,z9q,F6,Bool.and_false,yoq]
  ·have c1':(if t.a.none=true then !decide (t.E8=15)else t.a.closed)=false:=zQq.2 c1;simp only[c1',z9q,F6,yoq]
 have h4:fq C9 t.D9 (V6 t).D9=some (.bool (decide (t.a=(V6 t).a)&&decide (t.b=(V6 t).b)&&t.A6c)):=by
  rw[A43];simp only[Ex.pj,Ty.BD,Ty.ag,xc _ ht.a,xc _ ht.b,M4,U1,Q4,F3,h6]
  by_cases a1:t.a=(V6 t).a<;>by_cases a2:t.b=(V6 t).b<;>simp[a1,a2]
 rw[A9t];simp only[AJ,F8,Ex.pj,Ex.BD,Ex.ag,A38 t ht,x0,x1,M4,Gz,zbq,Dm,TF,Q4,F3,h4,Ex.own]
 by_cases a1:Es t=(t.D6.length:Int)<;>simp[a1];by_cases a2:t.name=(V6 t).name<;>simp[a2];by_cases a3:t.arg=(V6 t).arg<;>simp[a3];by_cases a4:t.n=(V6 t).n<;>simp[a4];by_cases a5:t.s=(V6 t).s<;>simp[a5];by_cases a6:t.op=(V6 t).op<;>simp[a6];by_cases a7:t.J8.length=(V6 t).J8.length
 ·have a7':(t.J8.length:Int)=((V6 t).J8.length:Int):=by omega
  simp[a7]
 ·have a7':¬(t.J8.length:Int)=((V6 t).J8.length:Int):=by omega
  simp[a7,a7']
def Ex.B5a:t.A95=((!AQ t.E8||KA t.name)&&(!Bl t.E8||KA t.arg)&&(!decide (t.E8=3)||decide (t.n=0)||decide (t.n=1))&&(!decide (t.E8=4)||decide (t.s.size<=200))&&(!decide (t.E8=14)||decide (0<t.J8.length))&&(!Dq t.E8||(decide (1<=t.op)&&decide (t.op<=7)))):=by
 unfold Ex.A95 AQ Bl Dq;by_cases k1:t.E8=1
 ·simp[k1]
 by_cases k9:t.E8=9
 ·simp[k9]
 by_cases k11:t.E8=11
 ·simp[k11]
 by_cases k12:t.E8=12
 ·simp[k12]
 by_cases k3:t.E8=3
 ·simp[k3]
 by_cases k4:t.E8=4
 ·simp[k4]
 by_cases k14:t.E8=14
 ·simp[k14]
 by_cases k16:t.E8=16
 ·simp[k16]
 simp[k1,k9,k11,k12,k3,k4,k14,k16]
variable (E:Bool)
def A2H(s:ByteArray):(decide (s=if E=true then s else Z5)&&(!E||KA s))=Xz E s:=by cases E<;>simp[Xz]
def B7F(n:Int):decide (n=if E=true then n else 0)=(E||decide (n=0)):=by cases E<;>simp
def B7G:(decide (s=if eS k=true then s else Z5)&&(!decide (k=4)||decide (s.size<=200)))=((eS k||decide (s=Z5))&&decide (s.size<=200)):=by
 have n200:Z5.size<=200:=by decide
 unfold eS;by_cases h:k=4
 ·simp[h]
 ·by_cases e:s=Z5
  ·simp[h,e,n200]
  ·simp[h,e]
def B6e(n:Int)(r:Bool):(decide (n=if E=true then n else 0)&&(!E||r))=((!E||r)&&(E||decide (n=0))):=by cases E<;>simp
def B2Y(l:List F5):decide (l.length=(if k=14 then l else[]).length)=(decide (k=14)||decide (l.length=0)):=by by_cases h:k=14<;>simp[h]
def A5t(m:Bool)(t:Ty):(decide (t=if E=true then t else KJ)&&(if t.none=true then !m else t.closed))=XE E m t:=by
 have dA:decide (t=KJ)=t.none:=by rw[ybq,I9];exact B1F t
 unfold XE;cases E
 ·simp only[z1q,G8,dA]
  cases hn:t.none<;>simp
 ·simp
theorem Ex.B5b:(t.own&&t.J8.all F5.right)=t.one:=by
 by_cases hk:1<=t.E8/\t.E8<=16;rotate_left
 ·have h1:Es t=-1:=by unfold Es;rw[A7 hk]
  have h2:¬((-1:Int)=(t.D6.length:Int)):=by omega
  have k0:Jf t.E8 t.J8.length=false:=by unfold Jf;rw[zQq];intro h';simp only[zLq,I9]at h';omega
  unfold Ex.own Ex.one;rw[k0,h1];simp[h2]
 have hm:Es t=O5 t.E8 t.J8.length:=by unfold Es;rw[C8 hk]
 have Am:Jf t.E8 t.J8.length=(!decide (t.E8=14)||decide (0<t.J8.length)):=by unfold Jf;simp[hk.1,hk.2]
 have cm:decide (O5 t.E8 t.J8.length=(t.D6.length:Int))=decide ((t.D6.length:Int)=O5 t.E8 t.J8.length):=by rw[decide_eq_decide];exact eq_comm
 have hb:(if t.b.none=true then true else t.b.closed)=(if t.b.none=true then !false else t.b.closed):=rfl;have ha:(if t.a.none=true then !decide (t.E8=15)else t.a.closed)=(if t.a.none=true then !Ao t.E8 else t.a.closed):=rfl;unfold Ex.own Ex.one Ex.A6c Ex.yX Ex.yY Ex.yZ Ex.yc Ex.yf Ex.iC Ex.uE Ex.A1V;rw[hm,cm,Am,Ex.B5a,hb,ha];simp only[V6,Ex.Zk,Ex.A4D,Ex.iB,Ex.A16,Ex.A93,Ex.B2s,Ex.B2D,Ex.A1Z];rw[<- A2H (AQ t.E8) t.name,<- A2H (Bl t.E8) t.arg,<- B7F (eN t.E8) t.n,<- B7G t.E8 t.s,<- B6e (Dq t.E8) t.op,<- B2Y t.E8 t.J8,<- A5t (eA t.E8),<- A5t (eB t.E8)]
 ac_rfl
def A63:t.fit->C9.p Wv [t.D9]=some (.bool t.right):=by
 induction t using Ex.ind with
 |h t ih=>
   intro ht;have hk:=big (zCq ht.one.D6);have hp:=big (zCq ht.one.J8);refine(A3V _).trans ?_;have l2:=Xy (l:=t.D6) (f:=Ex.right) (P:=λi=>Qc C9 (iI i) t.D9)
    (by rw[dV];simp)
    (λi h=>by rw[dV];simp[h,V5 h,Ex.BD,Ex.ag,ih _ (z3q h) (ht.kid (z3q h)),Co (show i<9223372036854775807 by omega)];cases t.D6[i].right<;>rfl)
   have l1:=bG (l:=t.J8) (f:=F5.right) (P:=λi=>MB C9 (iI i) t.D9) (y:=.bool (t.D6.all Ex.right)) (n:=.bool false)
    (by rw[dU];simp only[GD,Int.lt_irrefl,R5,M4,F3,z1q,G8,Ex.A0T,Gz,zbq];exact l2)
    (λi h=>by rw[dU];have f:=ht.one.pat _ (z3q h);simp[h,V5 h,F5.BD,F5.ag,A08 _ f.size f.txt,Co (show i<9223372036854775807 by omega)];cases t.J8[i].right<;>rfl)
   rw[A41,Ex.right_eq,<- Ex.B5b];simp only[AJ,F8,Ex.pj,Ex.BD,Ex.ag,B0r t ht.one,M4,U1,F3];have l1':MB C9 (iI 0) t.D9=_:=l1;rw[l1'];cases t.own<;>cases t.J8.all F5.right<;>simp
def A07:p.thin=true->∀n:Int,0<=n->n<=401->∃m:Int,C9.p QU [p.D9,iI n]=some (iI m)/\n<=m/\m<=401:=by
 induction p using F5.ind with
 |h p ih=>
   intro ht n h0 h1;have hb:=p.IZ ht;have loop:∀(k j:Nat)(n:Int),j+k=p.D6.length->0<=n->n<=401->∃m:Int,Lt C9 (iI n) (iI j) p.D9=some (iI m)/\n<=m/\m<=401:=by
    intro k;induction k with
    |zero=>
      intro j n hj h0 h1;refine⟨n,?_,Int.le_refl _,h1⟩;have:¬j<p.D6.length:=by omega
      rw[Xg];simp[this]
    |succ k ihk=>
      intro j n hj h0 h1;have P8:j<p.D6.length:=by omega
      rw[Xg];by_cases hn:n<=400
      ·have YL:D7 .add (iI n) (iI 1)=some (iI (n+1)):=WH (by omega) (by omega);obtain⟨m,a1,a2,a3⟩:=ih _ (z3q P8) (F5.IY ht (z3q P8)) (n+1) (by omega) (by omega);obtain⟨m',b1,b2,b3⟩:=ihk (j+1) m (by omega) (by omega) a3;push_cast at b1;exact⟨m',by simp[P8,hn,YL,V5 P8,F5.BD,F5.ag,a1,Co (show j<9223372036854775807 by omega),b1],by omega,b3⟩
      ·exact⟨n,by simp[P8,hn],Int.le_refl _,h1⟩
   by_cases c1:(300:Int)<(p.s.size:Int)
   ·refine⟨401,(Sn _ _).trans ?_,h1,by omega⟩;rw[UR];simp[c1]
   by_cases c2:(300:Int)<(p.name.size:Int)
   ·refine⟨401,(Sn _ _).trans ?_,h1,by omega⟩;rw[UR];simp[c1,c2]
   obtain⟨m,a1,a2,a3⟩:=loop p.D6.length 0 n (by omega) h0 h1;refine⟨m,(Sn _ _).trans ?_,a2,a3⟩;rw[UR];simp[c1,c2];exact a1
def N_(k:Ex):(DV.agg [A9 0 k.D9,A9 1 k.D9,A9 2 k.D9,A9 3 k.D9,A9 4 k.D9,A9 5 k.D9,A9 6 k.D9,A9 7 k.D9,A9 8 k.D9,A9 9 k.D9,A9 10 k.D9,A9 11 k.D9,A9 12 k.D9,A9 13 k.D9,A9 14 k.D9,A9 15 k.D9])=k.D9:=by simp[Ex.BD,Ex.ag]
def A7Y:t.fit->t.Y0<=R9->C9.p Yx [t.D9]=some (iI t.size):=by
 induction t using Ex.ind with
 |h t ih=>
   intro ft hm;have hk:=big (zCq ft.one.D6);have hs:=t.Tc;have hb:=big hm;refine(A5l _).trans ?_;rw[A7v];simp only[AJ,F8];have loop:=A2V (l:=t.D6) (P:=λi (a:Nat)=>SL C9 (iI a) (iI i) t.D9) (g:=λa k=>a+k.size) (fin:=λa=>some (iI a))
    (I:=λi a=>a+((t.D6.drop i).map Ex.size).sum<=R9)
    (λa _=>by rw[jN];simp)
    (λi h a ha=>by
      rw[z4q h,zsq,zPq]at ha;have:=big ha;refine⟨?_,by omega⟩;rw[jN];have e:D7 .add (iI (a:Int)) (iI (t.D6[i].size:Int))=some (iI ((a+t.D6[i].size:Nat):Int)):=by rw[WH (by omega) (by omega)];simp
      simp[h,V5 h,Ex.BD,Ex.ag,ih _ (z3q h) (ft.kid (z3q h)) (by have:=Ex.bJ (z3q h);omega),Co (show i<9223372036854775807 by omega),e]) 1
    (by have:=t.size_eq;simpa using(by omega:1+(t.D6.map Ex.size).sum<=R9))
   have e:∀(l:List Ex)(a:Nat),l.foldl (λa k=>a+k.size) a=a+(l.map Ex.size).sum:=by
    intro l;induction l with
    |nil=>intro a;simp
    |cons x l ih=>intro a;simp[ih];omega
   rw[e,<- Ex.size_eq]at loop;exact loop
def Ex.B6I{t:Ex}(rt:t.right=true)(k68:t.E8=6\/t.E8=8):∃(h0:0<t.D6.length)(h1:1<t.D6.length),t.D6.take 2=[t.D6[0],t.D6[1]]:=by
 have Ll:=Ex.B3q (Ex.YD rt);have GH:t.D6.length=2:=by rcases k68 with k | k<;>rw[k]at Ll<;>simp[O5]at Ll<;>omega
 refine⟨by omega,by omega,?_⟩;apply List.ext_getElem
 ·simp[GH]
 ·intro i h1 h2;simp at h2
  match i,h2 with
  |0,_=>simp
  |1,_=>simp
def A4a:t.fit->t.right=true->C9.p PW [t.D9]=some (.bool t.value):=by
 induction t using Ex.ind with
 |h t ih=>
   intro ft rt;refine(A1E _).trans ?_;rw[A3H,Ex.B3Z];by_cases k1:t.E8=1
   ·simp[k1]
   by_cases k2:t.E8=2
   ·simp[k2]
   by_cases k3:t.E8=3
   ·simp[k3]
   by_cases k4:t.E8=4
   ·simp[k4]
   by_cases k5:t.E8=5
   ·simp[k5]
   by_cases k7:t.E8=7
   ·simp[k7]
   by_cases k9:t.E8=9
   ·simp[k9]
   by_cases k68:t.E8=6\/t.E8=8
   ·obtain⟨h0,h1,e⟩:=Ex.B6I rt k68;have d0:M9 16 (.list 16 (t.D6.map Ex.D9)) (iI 0)=some t.D6[0].D9:=V5 h0;have d1:M9 16 (.list 16 (t.D6.map Ex.D9)) (iI 1)=some t.D6[1].D9:=V5 h1;have i0:=ih _ (z3q h0) (ft.kid (z3q h0)) (Ex.Hf rt (z3q h0));have i1:=ih _ (z3q h1) (ft.kid (z3q h1)) (Ex.Hf rt (z3q h1));have p11:Ou C9 t.D9=some (.bool ((t.D6.take 2).all Ex.value)):=by rw[yD,e];simp[d0,d1,Ex.BD,Ex.ag,i0,i1];cases t.D6[0].value<;>simp
    rcases k68 with k | k<;>simp[k,p11]
   ·have k6:¬t.E8=6:=λh=>k68 (.inl h);have k8:¬t.E8=8:=λh=>k68 (.inr h);simp[k1,k2,k3,k4,k5,k6,k7,k8,k9]
def A39(ft:t.fit):C9.p Zq [t.D9]=some (.bool (t.right&&t.value)):=by
 refine(A1D _).trans ?_;rw[A3D];simp only[AJ,F8,N_,Sg t ft,M4,BJ];cases rt:t.right
 ·simp
 ·simp[N_,A4a t ft rt]
def xZ(x:Int)(n:Nat)(h0:0<n)(h1:n<=R9):∃r:Nat,r<n/\C9.p QT [iI x,iI n]=some (iI r):=by
 have hb:=big h1;have hn:¬((n:Int)<1):=by omega
 have hu:IntKind.u64.wrap (n:Int)=n:=Go.IntWalk.u64_in _ ⟨by omega,by omega⟩;have hx:0<=IntKind.u64.wrap x:=by simp[IntKind.wrap,IntKind.bits,IntKind.signed];omega
 generalize hw:IntKind.u64.wrap x=w at hx;have hr1:0<=w.tmod n:=Int.tmod_nonneg _ hx;have hr2:w.tmod n<n:=Int.tmod_lt_of_pos _ (by omega);refine⟨(w.tmod n).toNat,by omega,(A5d _ _).trans ?_⟩;have B8I:D7 .rem (.int .u64 w) (.int .u64 (n:Int))=some (.int .u64 (w.tmod n)):=by
  have:¬((n:Int)=0):=by omega
  simp[D7,KT,MO];omega
 have hi:IntKind.i64.wrap (w.tmod n)=w.tmod n:=Go.IntWalk.i64_in _ ⟨by omega,by omega⟩;have hc:((w.tmod n).toNat:Int)=w.tmod n:=by omega
 rw[A7o];simp only[GD,hn,R5,M4,F3,z1q,G8,dL,hw,hu,B8I,hi,hc]
end Go.Su

/-
 The store's functions: a store in memory; what reads it.
-/
namespace Go.Su
set_option linter.defProp false
def I6{α β : Type}(a : α)(f : α->Option β):ob (some a) f=f a:=by first | (simp only[ob];done) | (simp only[ob];rfl)
variable (n:Nat)
def iN:DV:=.int .i64 (n:Int)
def lnk:Option Nat->DV
 |none=>.int .i64 (-1)
 |some m=>iN m
variable (d:Nd)(m:Nat)
def Nd.D9:DV:=.agg [iN d.E8,iN d.level,lnk d.link,.list 1 (d.D6.map iN),iN m]
def OD(i v:Nat)(S:E9):List (DV×F4):=[(.undef,.P7 i v 5 S.l.length),(iN S.mx,.val),(iN S.cnt,.val),(iN S.J7,.val)]
def PM(S:E9)(ms:List Nat):List DV:=List.zipWith Nd.D9 S.l ms
structure EW(b i:Nat)(S:E9)(ms:List Nat)(v:Nat)(sg:List E5):Prop where
 box:H5 sg b=some (OD i v S)
 P7:V3 sg i v=some (5,PM S ms)
 len:ms.length=S.l.length
 le:∀m∈ms,m<=S.J7
def Y6(b i:Nat)(S:E9)(sg:List E5):Prop:=∃ms v,EW b i S ms v sg
structure Kp(b i:Nat)(sg sg':List E5):Prop where
 le:sg.length<=sg'.length
 eq:∀j,j<sg.length->j≠b->j≠i->sg'[j]?=sg[j]?
variable {i:Nat}
def Kp.refl{b:Nat}(sg:List E5):Kp b i sg sg:=⟨zfq _,λ_ _ _ _=>rfl⟩
def Kp.trans{b:Nat}{x y z:List E5}(h:Kp b i x y)(k:Kp b i y z):Kp b i x z :=⟨zJq h.le k.le,λj hj h1 h2=>(k.eq j (z6q hj h.le) h1 h2).trans (h.eq j hj h1 h2)⟩
variable {sg:List E5}
def bU{n:Nat}{x:Nat×List DV}(h:V3 sg i n=some x):i<sg.length:=by
 unfold V3 at h;split at h
 ·rename_i h';exact(z7q.1 h').1
 ·cases h
def Wn{x:List (DV×F4)}(h:H5 sg i=some x):sg[i]?=some (.box x):=by unfold H5 at h;split at h<;>simp_all
def zA{n:Nat}{x:Nat×List DV}(h:V3 sg i n=some x):sg[i]?=some (.P7 n x.1 x.2):=by
 unfold V3 at h;split at h
 ·split at h
  ·rename_i e;simp only[D8]at h;subst h;subst e;assumption
  ·cases h
 ·cases h
def Bg(h:i<sg.length)(x:List (DV×F4)):H5 (sg.set i (.box x)) i=some x:=by simp[H5,h]
def ZZ(h:i<sg.length)(n sz:Nat)(ds:List DV):V3 (sg.set i (.P7 n sz ds)) i n=some (sz,ds):=by simp[V3,h]
def Cm{j:Nat}(h:i≠j)(o:E5):H5 (sg.set i o) j=H5 sg j:=by unfold H5;rw[z2q h]
def nW{j n:Nat}(h:i≠j)(o:E5):V3 (sg.set i o) j n=V3 sg j n:=by unfold V3;rw[z2q h]
variable {S:E9}{ms:List Nat}
def EW.ne{b v:Nat}(h:EW b i S ms v sg):i≠b:=by intro e;have h1:=Wn h.box;have h2:=zA h.P7;rw[e,h1]at h2;cases h2
def EW.mono{b v:Nat}{sg':List E5}(h:EW b i S ms v sg)(h1:sg'[b]?=sg[b]?)(h2:sg'[i]?=sg[i]?):EW b i S ms v sg' :=⟨by rw[Jo h1];exact h.box,by rw[nX h2];exact h.P7,h.len,h.le⟩
def EW.app{b v:Nat}(h:EW b i S ms v sg)(L:List E5):EW b i S ms v (sg++L) :=h.mono (zaq (CV h.box)) (zaq (bU h.P7))
def Y6.app{b:Nat}(h:Y6 b i S sg)(L:List E5):Y6 b i S (sg++L):=by obtain⟨ms,v,h⟩:=h;exact⟨ms,v,h.app L⟩
def Kp.app{b:Nat}(sg L:List E5):Kp b i sg (sg++L):=⟨by simp,λj hj _ _=>zaq hj⟩
def Kp.set{b j:Nat}(sg:List E5)(o:E5)(h:j=b\/j=i):Kp b i sg (sg.set j o) :=⟨by simp,λk hk h1 h2=>z2q (by omega)⟩
section
variable {b i v:Nat}{S:E9}{ms:List Nat}{sg:List E5}
@[simp] theorem CR:Ar (OD i v S) 0 5=some (i,v,S.l.length):=rfl
@[simp] theorem B83:U7 (OD i v S) 1=some (iN S.mx):=rfl
@[simp] theorem B5J:U7 (OD i v S) 2=some (iN S.cnt):=rfl
@[simp] theorem A8P:U7 (OD i v S) 3=some (iN S.J7):=rfl
def A1d:iH n=some (iN n):=Wq n
def Jd{n k:Nat}(h:k<n):AC 0 n (iN k)=some k:=by simp only[AC,iN];rw[C8 (by omega)];simp
def EW.nd(h:EW b i S ms v sg){n:Nat}{d:Nd}(hd:S.l[n]?=some d):∃m,ms[n]?=some m/\m<=S.J7/\(PM S ms)[n]?=some (d.D9 m):=by
 have hn:=(z7q.1 hd).1;have hm:n<ms.length:=by rw[h.len];exact hn
 refine⟨ms[n],zeq hm,h.le _ (z3q hm),?_⟩;unfold PM;rw[zwq,hd,zeq hm]
def EW.lv(h:EW b i S ms v sg):i<sg.length:=bU h.P7
def EW.lb(h:EW b i S ms v sg):b<sg.length:=CV h.box
@[simp] theorem nd0:A9 0 (d.D9 m)=iN d.E8:=rfl
@[simp] theorem nd1:A9 1 (d.D9 m)=iN d.level:=rfl
@[simp] theorem nd2:A9 2 (d.D9 m)=lnk d.link:=rfl
@[simp] theorem nd3:A9 3 (d.D9 m)=.list 1 (d.D6.map iN):=rfl
@[simp] theorem nd4:A9 4 (d.D9 m)=iN m:=rfl
@[simp] theorem O8:J3 (iN n)=true:=rfl
@[simp] theorem Bd:M8 (iN n)=true:=rfl
@[simp] theorem LY:AB false (iN n)=true:=rfl
def B1x(o:Option Nat):D7 .geq (lnk o) (iI 0)=some (.bool o.isSome):=by cases o<;>simp[lnk,iN]
variable (a:Nat)
def Nw(c:Nat):D7 .eql (iN a) (iN c)=some (.bool (decide (a=c))):=by
 simp only[iN,BJ]
 congr 2;exact decide_eq_decide.2 (by omega)
def Vv(c:Nat):D7 .neq (iN a) (iN c)=some (.bool (!decide (a=c))):=by
 simp only[iN,Dm]
 congr 3;exact decide_eq_decide.2 (by omega)
def Aq(c:Nat):D7 .lss (iN a) (iN c)=some (.bool (decide (a<c))):=by simp[iN]
def xD(c:Nat):D7 .gtr (iN a) (iN c)=some (.bool (decide (c<a))):=by simp[iN]
def A9y:D7 .geq (iN a) (iI 0)=some (.bool true):=by simp[iN]
def tZ:D7 .lss (iN a) (iI 0)=some (.bool false):=by simp[iN]
variable {a:Nat}
theorem addN(h:a<2 ^ 62):D7 .add (iN a) (iI 1)=some (iN (a+1)):=by rw[iN,Co (by omega)];rfl
def A4g{c:Nat}(h:a+c<2 ^ 62):D7 .add (iN a) (iN c)=some (iN (a+c)):=by rw[iN,iN,WH (by omega) (by omega)];simp[iN]
def B0v(h:a<2 ^ 62):D7 .sub (iN (a+1)) (iI 1)=some (iN a):=by simp only[iN];rw[Je,GX (by omega) (by omega)];congr 2;omega
def B0u{c:Nat}(h:c<=a)(h2:a<2 ^ 62):D7 .sub (iN a) (iN c)=some (iN (a-c)):=by simp only[iN];rw[Je,GX (by omega) (by omega)];congr 2;omega
variable {l:List Nat}
def IB{j:Nat}(h:j<l.length):M9 1 (.list 1 (l.map iN)) (iN j)=some (iN l[j]):=V5 h
def Sv(l:List Nat):O3 (.list 1 (l.map iN))=some (iN l.length):=by simp[iN]
def xq(h:l.length<2 ^ 31):EP 1 (.list 1 (l.map iN)) (.list 1 [iN a])=some (.list 1 ((l++[a]).map iN)):=by rw[Kn (by simp[R9];omega)];simp
def A4t(h:EW b i S ms v sg)(n:Nat):C9.r Y3 [(.undef,.ptr b 0),(iN n,.val)] sg=some ([.bool (decide (n<S.l.length))],sg):=by refine(sP _ _ _).trans ?_;rw[vV];simp only[A9y,I6,Q4,F6,h.box,CR,A1d,Aq]
variable {n:Nat}
def Qx(h:EW b i S ms v sg){r:Nat}(hr:X5 S n r):C9.r Q5 [(.undef,.ptr b 0),(iN n,.val)] sg=some ([iN r],sg):=by
 refine(mX _ _ _).trans ?_;rw[qR];simp only[A4t h,I6,z0q,U1,F3,hr.lt,K3,z5q,z1q,G8]
 induction hr with
 |here h1 h2=>obtain⟨m,-,-,e⟩:=h.nd h1;rw[Ro];simp only[h.box,I6,CR,Jd (X5.here h1 h2).lt,h.P7,e,beq_self_eq_true,F8,nd2,B1x,F3,h2,zyq,z1q,G8]
 |step h1 h2 h3 ih=>obtain⟨m,-,-,e⟩:=h.nd h1;rw[Ro];simp only[h.box,I6,CR,Jd (X5.step h1 h2 h3).lt,h.P7,e,beq_self_eq_true,F8,nd2,B1x,F3,h2,zzq,F6];exact ih
variable {t:NT}
def A8J(h:EW b i S ms v sg)(hr:U8 S n t):C9.r Y5 [(.undef,.ptr b 0),(iN n,.val)] sg=some ([iN t.k],sg):=by refine(mR _ _ _).trans ?_;obtain⟨d,d1,-,d3,-⟩:=hr.nd;obtain⟨m,-,-,e⟩:=h.nd d1;rw[qN];simp only[A4t h,I6,z0q,U1,F3,hr.lt,K3,z5q,z1q,G8,h.box,CR,Qx h hr.root,Mf,F6,Jd hr.Hg,h.P7,e,beq_self_eq_true,F8,nd0,d3]
theorem B5x(h:EW b i S ms v sg)(ok:S.Ok)(hr:U8 S n t):
 C9.r C_ [(.undef,.ptr b 0),(iN n,.val)] sg=some ([.list 1 ((S.I5 t.r).map iN)],sg++[.arr 1 []]):=by
 refine(mQ _ _ _).trans ?_;obtain⟨d,d1,-,d3,-⟩:=hr.nd;obtain⟨m,-,-,e⟩:=h.nd d1;have hk:=ok.k2 d1;rw[qM,Du d1];simp only[A4t h,I6,z0q,U1,F3,hr.lt,K3,z5q,z1q,G8,h.box,CR,Qx h hr.root,Mf,F6,Jd hr.Hg,h.P7,e,beq_self_eq_true,F8,nd3,A9i,zbq,zjq];rw[show decide (d.D6.length<=R9)=true from decide_eq_true (by unfold R9;omega),F8];have:Qw (sg++[E5.arr 1 (d.D6.map iN)]) sg.length=some (1,d.D6.map iN):=by simp[Qw]
 simp only[B3D,Bn,this,I6,beq_self_eq_true,F8,zKq,zbq,zfq,F6,zcq];rw[zRq _ _ (zfq _),y9q,zDq (by simp)];rfl
def B3R(h:EW b i S ms v sg)(hr:U8 S n t)(hk:t.k=6):C9.r Fv [(.undef,.ptr b 0),(iN n,.val)] sg=some ([iN (S.X8 t.r)],sg):=by
 refine(jg _ _ _).trans ?_;obtain⟨d,d1,-,d3,-⟩:=hr.nd;obtain⟨m,-,-,e⟩:=h.nd d1;rw[lq,nG d1];have:D7 .neq (iN t.k) (iI 6)=some (.bool false):=by rw[hk];rfl
 simp only[A8J h hr,I6,z0q,this,F3,z1q,G8,h.box,CR,Qx h hr.root,Mf,F6,Jd hr.Hg,h.P7,e,beq_self_eq_true,F8,nd1]
end
end Go.Su

/-
 The store's functions: what is within a node.
-/
namespace Go.Su
set_option linter.defProp false
section
variable {b i v:Nat}{S:E9}{ms:List Nat}{sg:List E5}
def B43{S:E9}{ms:List Nat}{r x:Nat}{d:Nd}(hd:S.l[r]?=some d):(PM S ms).set r (d.D9 x)=PM S (ms.set r x):=by
 unfold PM;refine zGq λj=>?_;rw[zwq,zvq,zvq,zwq,zWq];by_cases h:r=j
 ·subst h;rw[hd,C8 rfl,C8 rfl];have:=(z7q.1 hd).1;by_cases h2:r<ms.length
  ·rw[C8 (by omega),C8 h2]
  ·rw[A7 (by omega),A7 h2]
 ·rw[A7 h,A7 h]
def A8w{S:E9}{ms:List Nat}{r m:Nat}{d:Nd}{f:Nd->Nd}(hd:S.l[r]?=some d)(hm:ms[r]?=some m):(PM S ms).set r ((f d).D9 m)=PM { S with l:=S.l.modify r f } ms:=by
 unfold PM;refine zGq λj=>?_;rw[zwq,zvq,zwq,zWq,List.getElem?_modify];by_cases h:r=j
 ·subst h;have h1:=(z7q.1 hd).1;have h2:=(z7q.1 hm).1;rw[hd,hm,C8 rfl,C8 (by omega)];simp
 ·rw[A7 h];cases S.l[j]?<;>simp[h]
def EW.wr{S':E9}{ms':List Nat}(h:EW b i S ms v sg)(hl:S'.l.length=S.l.length)(h1:S'.mx=S.mx)(h2:S'.cnt=S.cnt)(h3:S'.J7=S.J7)(hm:ms'.length=ms.length)(J5:∀m∈ms',m<=S'.J7){ds:List DV}(hd:ds=PM S' ms'):
 EW b i S' ms' v (sg.set i (.P7 v 5 ds)):=by
 refine⟨?_,?_,by rw[hm,h.len,hl],J5⟩
 ·rw[Cm h.ne,h.box];simp only[OD,hl,h1,h2,h3]
 ·rw[hd];exact ZZ h.lv ..
def EW.tick(h:EW b i S ms v sg):EW b i S.tick ms v (sg.set b (.box ((OD i v S).set 3 (iN (S.J7+1),.val)))) :=⟨Bg h.lb _,by rw[nW (Ne.symm h.ne)];exact h.P7,h.len,λm hm=>by have:=h.le m hm;simp only[E9.tick];omega⟩
variable (d:Nd)
theorem B3l(m x:Nat):KV 5 4 (d.D9 m) [(iN x,.val)]=some (d.D9 x):=rfl
theorem B1v(m x:Nat):KV 5 1 (d.D9 m) [(iN x,.val)]=some ({ d with level:=x }.D9 m):=rfl
theorem B3i(m x:Nat):KV 5 2 (d.D9 m) [(iN x,.val)]=some ({ d with link:=some x }.D9 m):=rfl
structure Met(S:E9)(ms o:List Nat):Prop where
 iff:∀(r m:Nat),ms[r]?=some m->(m=S.J7↔r∈o)
 nd:o.Nodup
 lt:∀r∈o,r<S.l.length
variable {o:List Nat}
def Met.len(h:Met S ms o):o.length<=S.l.length:=by have:=Zg h.nd (m:=List.range S.l.length) λx hx=>List.mem_range.2 (h.lt x hx);simpa using this
def Met.add{r:Nat}(h:Met S ms o)(hr:r<S.l.length)(hn:r∉o):Met S (ms.set r S.J7) (o++[r]):=by
 refine⟨λj m hj=>?_,?_,λj hj=>?_⟩
 ·rw[zvq]at hj;rw[zqq,zgq];by_cases e:r=j
  ·subst e;rw[C8 rfl]at hj;split at hj
   ·cases hj;simp
   ·cases hj
  ·rw[A7 e]at hj;rw[h.iff j m hj];constructor
   ·exact Or.inl
   ·rintro(g | g)
    ·exact g
    ·exact absurd g.symm e
 ·rw[y4q];exact⟨h.nd,by simp,λa ha c hc=>by simp only[zgq]at hc;subst hc;intro e;subst e;exact hn ha⟩
 ·rw[zqq,zgq]at hj;rcases hj with hj | hj
  ·exact h.lt j hj
  ·omega
def B0E(b i:Nat)(S:E9)(v:Nat)(sg:List E5)(x:Option (List DV×List E5))(o:List Nat):Prop :=∃ms' sg',x=some ([.list 1 (o.map iN)],sg')/\EW b i S ms' v sg'/\Met S ms' o/\Kp b i sg sg'
def B5D(ok:S.Ok)(t:NT):∀(n:Nat),U8 S n t->∀(o ms:List Nat)(sg:List E5),EW b i S ms v sg->Met S ms o->
 B0E b i S v sg (C9.r Kc [(.undef,.ptr b 0),(iN n,.val),(.list 1 (o.map iN),.own)] sg) (t.look o):=by
 induction t using NT.ind with
 |h r k ts ih=>
   intro n hu o ms sg h M;obtain⟨d,d1,d2,d3,d4,d5⟩:=hu.nd;simp only[NT.Jm,NT.WW,NT.X0]at d1 d3 d4 d5;obtain⟨m,m1,m2,e⟩:=h.nd d1;have hr:=hu.Hg;have Rz:=hu.root;simp only[NT.Jm]at hr Rz;have ol:=M.len;have oc:=ok.lc;have omm:=ok.mm;have ocm:=ok.cm;rw[mZ,qV];simp only[Qx h Rz,I6,z0q,h.box,CR,Jd hr,h.P7,e,beq_self_eq_true,F8,A8P,nd4,Nw,F3,I9,NT.look]
   by_cases hm:m=S.J7
   ·rw[C8 hm,C8 ((M.iff r m m1).1 hm)];exact⟨ms,sg,rfl,h,M,Kp.refl _⟩
   ·have ho:r∉o:=λg=>hm ((M.iff r m m1).2 g);rw[A7 hm,A7 ho];have h1:EW b i S (ms.set r S.J7) v (sg.set i (.P7 v 5 ((PM S ms).set r (d.D9 S.J7)))) :=
     h.wr rfl rfl rfl rfl (by simp) (λx hx=>by
      rcases List.mem_or_eq_of_mem_set hx with g | g
      ·exact h.le x g
      ·omega) (B43 d1)
    have M1:=M.add hr ho;obtain⟨m',-,-,e1⟩:=h1.nd d1;have hk:=ok.k2 d1;simp only[O8,F8,B3l,I6,xq (show o.length<2 ^ 31 by omega),h1.box,CR,Jd hr,h1.P7,e1,beq_self_eq_true,nd3,Sv]
    have key:∀(q j:Nat)(o ms:List Nat)(sg:List E5),j+q=d.D6.length->EW b i S ms v sg->Met S ms o->
     B0E b i S v sg (Hy C9 b (.list 1 (o.map iN)) (.list 1 (d.D6.map iN)) (iN d.D6.length) (iN j) sg) (NT.VF (ts.drop j) o):=by
     intro q;induction q with
     |zero=>intro j o ms sg hj h M;rw[Rt,z8q (by omega)];simp only[Aq,I6,F3,I9];rw[A7 (by omega),NT.VF];exact⟨ms,sg,rfl,h,M,Kp.refl _⟩
     |succ q ihq=>
       intro j o ms sg hj h M;have P8:j<d.D6.length:=by omega
       have FE:j<ts.length:=by omega
       obtain⟨ms',sg',a1,a2,a3,a4⟩:=ih ts[j] (z3q FE) d.D6[j] (d5 j P8 FE) o ms sg h M;obtain⟨ms2,sg2,b1,b2,b3,b4⟩:=ihq (j+1) _ ms' sg' (by omega) a2 a3;refine⟨ms2,sg2,?_,b2,?_,a4.trans b4⟩
       ·rw[Rt,z4q FE];simp only[Aq,I6,F3,I9,C8 P8,IB P8,Bd,F8,a1,z0q,addN (show j<2 ^ 62 by omega),NT.VF]
        exact b1
       ·rw[z4q FE,NT.VF];exact b3
    obtain⟨ms2,sg2,b1,b2,b3,b4⟩:=key d.D6.length 0 _ _ _ (by omega) h1 M1;exact⟨ms2,sg2,b1,b2,b3,(Kp.set sg _ (.inr rfl)).trans b4⟩
def XY(b i:Nat)(sg:List E5)(x:Option (List DV×List E5))(ds:List DV)(S:E9):Prop:=∃sg',x=some (ds,sg')/\Y6 b i S sg'/\Kp b i sg sg'
def EW.at(h:EW b i S ms v sg):Y6 b i S sg:=⟨ms,v,h⟩
def n_(h:Y6 b i S sg)(ok:S.Ok)(hr:S.J7+1<2 ^ 62){n:Nat}{t:NT}(ht:U8 S n t):XY b i sg (C9.r Dy [(.undef,.ptr b 0),(iN n,.val)] sg) [.list 1 ((S.roots n).map iN)] S.tick:=by
 obtain⟨ms,v,h⟩:=h;have M:Met S.tick ms []:=⟨λr m hm=>by have:=h.le m (List.mem_of_getElem? hm);simp only[E9.tick,zkq,iff_false];omega,ypq,by simp⟩
 obtain⟨ms',sg',a1,a2,a3,a4⟩:=B5D (b:=b) (i:=i) (v:=v) ok.tick t n ht.tick [] ms _ h.tick M;refine⟨sg',?_,a2.at,(Kp.set sg _ (.inl rfl)).trans a4⟩;refine(jk _ _ _).trans ?_;rw[l_];have c3:(OD i v S)[3]?=some (iN S.J7,.val):=rfl;simp only[h.box,I6,A8P,addN (show S.J7<2 ^ 62 by omega),O8,F8,c3]
 simp only[zuq]at a1;rw[a1];simp only[I6,z0q,E9.roots,ht.eq]
end
end Go.Su

/-
 The store's functions: variables, levels, links.
-/
namespace Go.Su
set_option linter.defProp false
section
variable {b i:Nat}{S:E9}{sg:List E5}
def B2c(l:List Nat)(hl:l.length<2 ^ 31)(n:Nat):C9.p CW [.list 1 (l.map iN),iN n]=some (.bool (decide (n∈l))):=by
 have:=uP (l.map Int.ofNat) (by simp[R9];omega) n;have e:Q0 (l.map Int.ofNat)=.list 1 (l.map iN):=by simp only[Q0,List.map_map];rfl
 rw[e]at this;rw[show iN n=.int .i64 (n:Int)from rfl,this];congr 2;refine decide_eq_decide.2 ⟨λh=>?_,λh=>zXq h⟩;obtain⟨m,hm,h2⟩:=List.mem_map.1 h;have:(m:Int)=n:=h2;have:m=n:=by omega
 rw[<- this];exact hm
def YE(h:Y6 b i S sg)(n:Nat):C9.r Y3 [(.undef,.ptr b 0),(iN n,.val)] sg=some ([.bool (decide (n<S.l.length))],sg):=by obtain⟨ms,v,h⟩:=h;exact A4t h n
variable {n:Nat}
def Nl(h:Y6 b i S sg)(ok:S.Ok)(hn:n<S.l.length):C9.r Q5 [(.undef,.ptr b 0),(iN n,.val)] sg=some ([iN (S.root n)],sg):=by obtain⟨ms,v,h⟩:=h;exact Qx h (ok.root hn)
def Sy(h:Y6 b i S sg)(ok:S.Ok)(hn:n<S.l.length):C9.r Y5 [(.undef,.ptr b 0),(iN n,.val)] sg=some ([iN (S.F9 (S.root n))],sg):=by obtain⟨ms,v,h⟩:=h;obtain⟨d,-,-,d3,-,d5,-⟩:=ok.nd hn;rw[A8J h (ok.L6 hn),<- d5,d3]
def nu(h:Y6 b i S sg)(ok:S.Ok)(hn:n<S.l.length):C9.r C_ [(.undef,.ptr b 0),(iN n,.val)] sg=some ([.list 1 ((S.I5 (S.root n)).map iN)],sg++[.arr 1 []]):=by obtain⟨ms,v,h⟩:=h;exact B5x h ok (ok.L6 hn)
def A3i(h:Y6 b i S sg)(ok:S.Ok)(hn:n<S.l.length)(hk:S.F9 (S.root n)=6):C9.r Fv [(.undef,.ptr b 0),(iN n,.val)] sg=some ([iN (S.X8 (S.root n))],sg):=by obtain⟨ms,v,h⟩:=h;obtain⟨d,-,-,d3,-,d5,-⟩:=ok.nd hn;exact B3R h (ok.L6 hn) (by rw[<- d3,d5,hk])
def E9.Ok.len{S:E9}(ok:S.Ok):S.l.length<=65541:=by have:=ok.lc;have:=ok.cm;have:=ok.mm;omega
def E9.Ok.A12{S:E9}(ok:S.Ok)(hn:n<S.l.length):(S.roots n).length<2 ^ 31:=by have:=E9.A3g ok hn;have:=ok.len;omega
def E9.B2i(S:E9)(ok:S.Ok)(hn:n<S.l.length):S.tick.root n=S.root n:=(ok.L6 hn).tick.Hl
def A3j(h:Y6 b i S sg)(ok:S.Ok)(hr:S.J7+1<2 ^ 62){v:Nat}(hv:v<S.l.length)(hn:n<S.l.length):
 XY b i sg (C9.r Ii [(.undef,.ptr b 0),(iN v,.val),(iN n,.val)] sg) [.bool (decide (S.root v∈S.roots n))] S.tick:=by
 obtain⟨K6,e1,a1,k1⟩:=n_ h ok hr (ok.L6 hn);refine⟨K6,?_,a1,k1⟩;refine(gY _ _ _ _).trans ?_;rw[jR];simp only[YE h,I6,z0q,Q4,hv,hn,K3,F6,e1,Nl a1 ok.tick (show v<S.tick.l.length from hv),S.B2i ok hv,B2c _ (ok.A12 hn)]
def B2a(h:Y6 b i S sg)(ok:S.Ok)(hr:S.J7+1<2 ^ 62)(hn:n<S.l.length):
 XY b i sg (C9.r ND [(.undef,.ptr b 0),(iN n,.val)] sg) [.bool (decide (4∉S.roots n))] S.tick:=by
 obtain⟨K6,e1,a1,k1⟩:=n_ h ok hr (ok.L6 hn);refine⟨K6,?_,a1,k1⟩;refine(gX _ _ _).trans ?_;rw[jQ];have:=B2c (S.roots n) (ok.A12 hn) 4;rw[show iN 4=.int .i64 4 from rfl]at this;simp only[YE h,I6,z0q,Q4,hn,K3,F6,e1,this,U1]
 congr 4;by_cases g:4∈S.roots n<;>simp[g]
def A8K(h:Y6 b i S sg)(ok:S.Ok)(hr:S.J7+1<2 ^ 62)(hn:n<S.l.length):
 XY b i sg (C9.r Ka [(.undef,.ptr b 0),(iN n,.val)] sg) [.list 1 ((S.vars n).map iN)] S.tick:=by
 obtain⟨K6,e1,a1,k1⟩:=n_ h ok hr (ok.L6 hn);refine⟨K6,?_,a1,k1⟩;refine(mY _ _ _).trans ?_;rw[qU];simp only[YE h,I6,z0q,U1,F3,hn,K3,z5q,z1q,G8,e1,Sv];obtain⟨ms,v,a1⟩:=a1;have hl:=ok.A12 hn;have key:∀(q j:Nat)(o:List Nat),j+q=(S.roots n).length->o.length<=j->Eb C9 b (.list 1 (o.map iN)) (.list 1 ((S.roots n).map iN)) (iN (S.roots n).length) (iN j) K6=some ([.list 1 ((o++((S.roots n).drop j).filter λr=>S.F9 r==6).map iN)],K6):=by
  intro q;induction q with
  |zero=>intro j o hj ho;rw[Rq,z8q (by omega)];simp only[Aq,I6,F3,I9];rw[A7 (by omega),ylq,ymq]
  |succ q ih=>
    intro j o hj ho;have P8:j<(S.roots n).length:=by omega
    have hx:=ok.NZ hn (z3q P8);obtain⟨d,hd⟩:∃d,S.tick.l[(S.roots n)[j]]?=some d:=⟨_,zeq hx⟩;obtain⟨m,-,-,e⟩:=a1.nd hd;rw[Rq,z4q P8,y6q];simp only[Aq,I6,F3,I9,C8 P8,IB P8,Bd,F8,a1.box,CR,Jd (show(S.roots n)[j]<S.tick.l.length from hx),a1.P7,e,beq_self_eq_true,nd0,show(DV.int .i64 6)=iN 6 from rfl,Nw,O8,addN (show j<2 ^ 62 by omega)]
    have hd:S.l[(S.roots n)[j]]?=some d:=hd;rw[Dv hd];by_cases h6:d.E8=6
    ·rw[C8 h6,xq (show o.length<2 ^ 31 by omega),h6];simp only[I6,beq_self_eq_true,F6];rw[ih (j+1) _ (by omega) (by simp;omega),y5q];rfl
    ·rw[A7 h6,ih (j+1) _ (by omega) (by omega)];simp[h6]
 have:=key (S.roots n).length 0 [] (by omega) (by simp);simp only[zuq,zxq,zcq]at this;exact this
def B6N(a c:Nat):aF (iN a) (iN c)=some (iN (min a c)):=by
 simp only[aF,iN,F6]
 congr 2;split<;>omega
def A6Y(h:Y6 b i S sg)(ok:S.Ok)(hr:S.J7+1<2 ^ 62){A8:Nat}(hn:n<S.l.length):
 XY b i sg (C9.r Jv [(.undef,.ptr b 0),(iN n,.val),(iN A8,.val)] sg) [] (S.lower n A8):=by
 obtain⟨K6,e1,a1,k1⟩:=A8K h ok hr hn;obtain⟨ms,v,a1⟩:=a1;have hl:=ok.A12 hn;have hvl:(S.vars n).length<2 ^ 31:=yeq (zSq ..) hl;have key:∀(q j:Nat)(l:List Nd)(sg:List E5),j+q=(S.vars n).length->l.length=S.l.length->EW b i { S.tick with l:=l } ms v sg->
  ∃sg',Gc C9 b (iN A8) (.list 1 ((S.vars n).map iN)) (iN (S.vars n).length) (iN j) sg=some ([],sg')/\EW b i { S.tick with l:=bI l ((S.vars n).drop j) A8 } ms v sg'/\Kp b i sg sg':=by
  intro q;induction q with
  |zero=>intro j l sg hj hll h;rw[RI,z8q (by omega)];simp only[Aq,I6,F3,I9];rw[A7 (by omega)];exact⟨sg,rfl,h,Kp.refl _⟩
  |succ q ih=>
    intro j l sg hj hll h;have P8:j<(S.vars n).length:=by omega
    have hx:(S.vars n)[j]<S.l.length:=ok.NZ hn (ynq.1 (z3q P8)).1;obtain⟨d,hd⟩:∃d,l[(S.vars n)[j]]?=some d:=⟨_,zeq (by rw[hll];exact hx)⟩;obtain⟨m,hm,-,e⟩:=h.nd hd;have h':EW b i { S.tick with l:=l.modify (S.vars n)[j] λd=>{ d with level:=min d.level A8 } } ms v (sg.set i (.P7 v 5 ((PM { S.tick with l:=l } ms).set (S.vars n)[j] ({ d with level:=min d.level A8 }.D9 m)))) :=h.wr (S':={ S.tick with l:=l.modify (S.vars n)[j] λd=>{ d with level:=min d.level A8 } }) (by simp) rfl rfl rfl rfl h.le (A8w (S:={ S.tick with l:=l }) (f:=λd=>{ d with level:=min d.level A8 }) hd hm)
    obtain⟨sg',b1,b2,b3⟩:=ih (j+1) _ _ (by omega) (by simp[hll]) h';refine⟨sg',?_,?_,(Kp.set sg _ (.inr rfl)).trans b3⟩
    ·rw[RI];simp only[Aq,I6,F3,I9,C8 P8,IB P8,Bd,F8,h.box,CR,Jd (show(S.vars n)[j]<l.length by omega),h.P7,e,beq_self_eq_true,nd1,B6N,O8,addN (show j<2 ^ 62 by omega),B1v]
     exact b1
    ·rw[z4q P8];exact b2
 obtain⟨sg2,b1,b2,b3⟩:=key (S.vars n).length 0 S.l K6 (by omega) rfl a1;refine⟨sg2,?_,⟨ms,v,b2⟩,k1.trans b3⟩;refine(ji _ _ _ _).trans ?_;rw[lw];simp only[e1,I6,z0q,Sv];exact b1
theorem A6T(h:Y6 b i S sg)(ok:S.Ok)(hr:S.J7+1<2 ^ 62){A8:Nat}(hn:n<S.l.length):
 XY b i sg (C9.r Ju [(.undef,.ptr b 0),(iN n,.val),(iN A8,.val)] sg) [iN 0] (S.lower n A8):=by
 obtain⟨K6,e1,a1,k1⟩:=A6Y (A8:=A8) h ok hr hn;refine⟨K6,?_,a1,k1⟩;refine(jh _ _ _ _).trans ?_;rw[lu];simp only[YE h,I6,z0q,U1,Q4,hn,K3,z5q,z1q,G8,tZ,F3,e1]
 try rfl
theorem A19(h:Y6 b i S sg)(ok:S.Ok)(hr:S.J7+2<2 ^ 62){v:Nat}(hv:v<S.l.length)(hn:n<S.l.length):
 XY b i sg (C9.r EX [(.undef,.ptr b 0),(iN v,.val),(iN n,.val)] sg) [iN (S.link v n).2] (S.link v n).1:=by
 obtain⟨ms,w,hm⟩:=id h;have hrv:=ok.Hg hv;have hrn:=ok.Hg hn;obtain⟨d,d1,d2,-,-,d5,d6⟩:=ok.nd hv;obtain⟨m,m1,-,e⟩:=hm.nd d1;have step:∀x,(Kj C9 b (iN v) (iN n) sg=x->C9.r EX [(.undef,.ptr b 0),(iN v,.val),(iN n,.val)] sg=x):=λx g=>(mU b (iN v) (iN n) sg).trans g;have start:Kj C9 b (iN v) (iN n) sg=_:=qO _ _ _ _ _;simp only[Nl h ok hv,Nl h ok hn,I6,z0q,tZ,Q4,z1q,G8,hm.box,CR,Jd hrv,hm.P7,e,beq_self_eq_true,F8,nd0,show(DV.int .i64 6)=iN 6 from rfl,Vv,Nw,F3,d5]at start;unfold E9.link;by_cases h6:S.F9 (S.root v)=6
 ·by_cases heq:S.root v=S.root n
  ·rw[C8 (.inr heq)];refine⟨sg,step _ ?_,h,Kp.refl _⟩;rw[start];simp[h6,heq];rfl
  ·rw[A7 (by simp[h6,heq])];obtain⟨K6,e1,a1,k1⟩:=A3j h ok (by omega) hrv hrn;rw[ok.rr hv]at e1;have rrn:S.roots (S.root n)=S.roots n:=by have:S.L6 (S.root n)=S.L6 n:=(ok.L6 hn).self.eq;unfold E9.roots;rw[this]
   rw[rrn]at e1;simp only[h6,heq,K3,z5q,z1q,G8,R5,e1,I6,z0q,F3,I9]at start;by_cases hw:S.root v∈S.roots n
   ·rw[C8 hw];refine⟨K6,step _ ?_,a1,k1⟩;rw[start,C8 hw];rfl
   ·rw[A7 hw];rw[A7 hw]at start;obtain⟨ms1,w1,Rx⟩:=id a1;obtain⟨m1,m2,-,e2⟩:=Rx.nd (S:=S.tick) d1;have h2:EW b i (S.tick.BM (S.root v) (S.root n)) ms1 w1 (K6.set i (.P7 w1 5 ((PM S.tick ms1).set (S.root v) ({ d with link:=some (S.root n) }.D9 m1)))) :=Rx.wr (S':=S.tick.BM (S.root v) (S.root n)) (by simp[E9.BM]) rfl rfl rfl rfl Rx.le (A8w (S:=S.tick) (f:=λd=>{ d with link:=some (S.root n) }) d1 m2)
    have ok2:=Xx ok hv hn h6 hw;obtain⟨d',g1⟩:∃d',(S.tick.BM (S.root v) (S.root n)).l[S.root v]?=some d'/\d'.level=S.X8 (S.root v):=by refine⟨_,by rw[JN];simp only[E9.tick];rw[d1,y0q],?_⟩;simp only[F6];exact d6
    obtain⟨g1,g2⟩:=g1;obtain⟨m3,-,-,e3⟩:=h2.nd g1;obtain⟨bS,e4,a4,k4⟩:=A6Y (A8:=S.X8 (S.root v)) h2.at ok2 (show S.J7+1+1<2 ^ 62 by omega) (show S.root n<(S.tick.BM (S.root v) (S.root n)).l.length by simpa[E9.BM,E9.tick]using hrn);refine⟨bS,step _ ?_,a4,k1.trans ((Kp.set K6 _ (.inr rfl)).trans k4)⟩;rw[start];have hl1:S.root v<S.tick.l.length:=hrv;have xJ:S.root v<(S.tick.BM (S.root v) (S.root n)).l.length:=by simpa[E9.BM,E9.tick]using hrv
    simp only[Rx.box,I6,CR,Jd hl1,Rx.P7,e2,beq_self_eq_true,F8,O8,B3i,h2.box,Jd xJ,h2.P7,e3,nd1,g2,e4]
    try rfl
 ·rw[C8 (.inl h6)];refine⟨sg,step _ ?_,h,Kp.refl _⟩;rw[start];simp[h6];rfl
end
end Go.Su

/-
 The store's functions: nodes are made, types are put.
-/
namespace Go.Su
set_option linter.defProp false
section
variable {b i:Nat}{S:E9}{sg:List E5}
def B42{S:E9}{ms:List Nat}(h:ms.length=S.l.length):(PM S ms).length=S.l.length:=by unfold PM;rw[zWq,h,Nat.min_self]
def A05(h:Y6 b i S sg)(hl:S.l.length<2 ^ 31)(hc:S.cnt<2 ^ 31)(k A8:Nat)(ks:List Nat):
 XY b i sg (C9.r BO [(.undef,.ptr b 0),(.agg [iN k,iN A8,iI 0,.list 1 (ks.map iN),iI 0],.val)] sg) [iN S.l.length] (S.add ⟨k,A8,none,ks⟩):=by
 obtain⟨ms,v,h⟩:=h;have hn:=B42 h.len
 let sg2:=(sg.set i (.P7 (v+1) 5 (PM S ms++[(⟨k,A8,none,ks⟩:Nd).D9 0])))
 let S':=S.add ⟨k,A8,none,ks⟩
 have pV:H5 sg2 b=some (OD i v S):=by rw[Cm h.ne];exact h.box
 have lb2:b<sg2.length:=CV pV
 let c1:List (DV×F4):=[(.undef,.P7 i (v+1) 5 (S.l.length+1)),(iN S.mx,.val),(iN S.cnt,.val),(iN S.J7,.val)]
 have hb3:H5 (sg2.set b (.box c1)) b=some c1:=Bg lb2 c1;have hb4:H5 ((sg2.set b (.box c1)).set b (.box (OD i (v+1) S'))) b=some (OD i (v+1) S'):=Bg (by simpa using lb2) _;refine⟨(sg2.set b (.box c1)).set b (.box (OD i (v+1) S')),?_,⟨ms++[0],v+1,⟨hb4,?_,?_,?_⟩⟩,?_⟩
 ·refine(qd _ _ _).trans ?_;rw[sH];have ag:I7 5 (DV.agg [iN k,iN A8,iI 0,.list 1 (ks.map iN),iI 0])=true:=rfl;have tk:(PM S ms).take S.l.length=PM S ms:=by rw[<- hn,yhq]
  have ap:Jy 5 (.list 5 (PM S ms)) (.list 5 [(⟨k,A8,none,ks⟩:Nd).D9 0])=some (PM S ms,[(⟨k,A8,none,ks⟩:Nd).D9 0]):=by simp only[Jy,and_self,true_and,zhq,zdq];rw[C8 ⟨by rw[hn];unfold R9;omega,by omega⟩]
  have en:DV.agg [A9 0 (DV.agg [iN k,iN A8,iI 0,.list 1 (ks.map iN),iI 0]),A9 1 (DV.agg [iN k,iN A8,iI 0,.list 1 (ks.map iN),iI 0]),iI (-1),A9 3 (DV.agg [iN k,iN A8,iI 0,.list 1 (ks.map iN),iI 0]),A9 4 (DV.agg [iN k,iN A8,iI 0,.list 1 (ks.map iN),iI 0])]=(⟨k,A8,none,ks⟩:Nd).D9 0:=rfl;rw[en];have s0:(OD i v S)[0]?=some (.undef,.P7 i v 5 S.l.length):=rfl;have s2:c1[2]?=some (iN S.cnt,.val):=rfl;have w1:(OD i v S).set 0 (.undef,.P7 i (v+1) 5 (S.l.length+1))=c1:=rfl;have w2:c1.set 2 (iN (S.cnt+1),.val)=OD i (v+1) S':=by simp[c1,OD,S',E9.add]
  have d2:U7 c1 2=some (iN S.cnt):=rfl;have sl:S'.l.length=S.l.length+1:=by simp[S',E9.add]
  simp only[ag,F8,h.box,I6,CR,h.P7,beq_self_eq_true,zjq,hn,zfq,K3,tk,ap,zhq,zdq,zKq];have B8t:H5 (sg.set i (E5.P7 (v+1) 5 (PM S ms++[(⟨k,A8,none,ks⟩:Nd).D9 0]))) b=some (OD i v S):=pV;simp only[B8t,I6,s0,w1];have B8u:H5 ((sg.set i (E5.P7 (v+1) 5 (PM S ms++[(⟨k,A8,none,ks⟩:Nd).D9 0]))).set b (.box c1)) b=some c1:=hb3;have B8v:H5 (((sg.set i (E5.P7 (v+1) 5 (PM S ms++[(⟨k,A8,none,ks⟩:Nd).D9 0]))).set b (.box c1)).set b (.box (OD i (v+1) S'))) b=some (OD i (v+1) S'):=hb4;simp only[B8u,I6,d2,addN (show S.cnt<2 ^ 62 by omega),O8,F8,s2,w2,B8v,CR,A1d,sl,B0v (show S.l.length<2 ^ 62 by omega)]
  try rfl
 ·rw[nW (Ne.symm h.ne),nW (Ne.symm h.ne),ZZ h.lv];congr 2;simp only[PM,E9.add];rw[List.zipWith_append h.len.symm];rfl
 ·simp[E9.add,h.len]
 ·intro m hm;rw[zqq]at hm;rcases hm with hm | hm
  ·exact h.le m hm
  ·simp only[zgq]at hm;omega
 ·exact(Kp.set sg _ (.inr rfl)).trans ((Kp.set sg2 _ (.inl rfl)).trans (Kp.set _ _ (.inl rfl)))
def Y6.cnt(h:Y6 b i S sg):∃cs,H5 sg b=some cs/\U7 cs 1=some (iN S.mx)/\U7 cs 2=some (iN S.cnt):=by obtain⟨ms,v,h⟩:=h;exact⟨_,h.box,rfl,rfl⟩
theorem A6U(h:Y6 b i S sg)(ok:S.Ok)(A8:Nat):
 XY b i sg (C9.r Ia [(.undef,.ptr b 0),(iN A8,.val)] sg) [iN (S.var A8).2.1,iN (S.var A8).2.2] (S.var A8).1:=by
 obtain⟨cs,c0,c1,c2⟩:=h.cnt;have hl:=ok.len;have hc:=ok.cm;have hm:=ok.mm;obtain⟨K6,e1,a1,k1⟩:=A05 h (by omega) (by omega) 6 A8 [];have start:=(qc b (iN A8) sg).trans (sG _ _ _ _);simp only[tZ,I6,F3,z1q,G8,c0,c1,c2,Nw,I9,O8,F8]at start;unfold E9.var;by_cases e:S.cnt=S.mx
 ·rw[C8 e]at start ⊢;exact⟨sg,start,h,Kp.refl _⟩
 ·rw[A7 e]at start ⊢;refine⟨K6,?_,a1,k1⟩;rw[start];have Ie:C9.r BO [(.undef,.ptr b 0),(.agg [iI 6,iN A8,iI 0,.list 1 [],iI 0],.val)] sg=_:=e1;rw[Ie];rfl
def B1z(h:Y6 b i S sg)(k:DV)(ks:List Nat)(hs:∀x∈ks,x<S.l.length)(hk:ks.length<2 ^ 31):DT C9 b k (.list 1 (ks.map iN)) sg=Cu C9 b k (.list 1 (ks.map iN)) (.list 1 (ks.map iN)) (iN ks.length) (iN ks.length) sg:=by
 rw[jP,Sv,I6];have key:∀(q j:Nat),j+q=ks.length->Cu C9 b k (.list 1 (ks.map iN)) (.list 1 (ks.map iN)) (iN ks.length) (iN j) sg=Cu C9 b k (.list 1 (ks.map iN)) (.list 1 (ks.map iN)) (iN ks.length) (iN ks.length) sg:=by
  intro q;induction q with
  |zero=>intro j hj;rw[show j=ks.length by omega]
  |succ q ih=>
    intro j hj;have P8:j<ks.length:=by omega
    rw[Rn];simp only[Aq,I6,F3,I9,C8 P8,IB P8,Bd,F8,YE h,z0q,U1,hs _ (z3q P8),K3,z5q,z1q,G8,addN (show j<2 ^ 62 by omega)]
    exact ih (j+1) (by omega)
 exact key ks.length 0 (by omega)
theorem A2a(h:Y6 b i S sg)(ok:S.Ok){k x y:Nat}(hk:k=7\/k=8\/k=9)(hx:x<S.l.length)(hy:k≠8->y<S.l.length):
 XY b i sg (C9.r EY [(.undef,.ptr b 0),(iN k,.val),(iN x,.val),(iN y,.val)] sg) [iN (S.make k x y).2.1,iN (S.make k x y).2.2] (S.make k x y).1:=by
 obtain⟨cs,c0,c1,c2⟩:=h.cnt;have hl:=ok.len;have hc:=ok.cm;have hm:=ok.mm
 let ks:=if k=8 then[x]else[x,y]
 have Ll:∀z∈ks,z<S.l.length:=by
  intro z hz;simp only[ks]at hz;split at hz
  ·rw[zgq.1 hz];exact hx
  ·rename_i h8;simp only[zoq,zkq,or_false]at hz;rcases hz with rfl | rfl
   ·exact hx
   ·exact hy h8
 have KF:ks.length<2 ^ 31:=by simp only[ks];split<;>simp
 obtain⟨K6,e1,a1,k1⟩:=A05 h (by omega) (by omega) k 0 ks;have st:C9.r EY [(.undef,.ptr b 0),(iN k,.val),(iN x,.val),(iN y,.val)] sg=DT C9 b (iN k) (.list 1 (ks.map iN)) sg:=by refine((mV b (iN k) (iN x) (iN y) sg).trans (qP _ _ _ _ _ _)).trans ?_;have h7:D7 .eql (iN k) (iI 7)=some (.bool (decide (k=7))):=Nw k 7;have h8:D7 .eql (iN k) (iI 8)=some (.bool (decide (k=8))):=Nw k 8;have h9:D7 .eql (iN k) (iI 9)=some (.bool (decide (k=9))):=Nw k 9;have sl:Nv 1 (.list 1 [iN x,iN y]) none (some (iI 1))=some (.list 1 [iN x]):=rfl;simp only[O8,F8,h7,h8,h9,sl,I6,F3,I9,ks];rcases hk with rfl | rfl | rfl<;>rfl
 rw[B1z h _ _ Ll KF,Rn]at st;have il:J3 (DV.list 1 (ks.map iN))=true:=rfl;simp only[Aq,zrq,R5,I6,F3,z1q,G8,c0,c1,c2,Nw,I9,O8,F8,il]at st;unfold E9.make;by_cases e:S.cnt=S.mx
 ·rw[C8 e]at st ⊢;exact⟨sg,st,h,Kp.refl _⟩
 ·rw[A7 e]at st ⊢;refine⟨K6,?_,a1,k1⟩;rw[st];have Ie:C9.r BO [(.undef,.ptr b 0),(.agg [iN k,iI 0,iI 0,.list 1 (ks.map iN),iI 0],.val)] sg=_:=e1;rw[Ie];rfl
mutual
def ZP:Ty->Nat->Nat
 |.mk _ _ ts,m=>if ts.length=0 then 0 else VH ts m 1
def VH:List Ty->Nat->Nat->Nat
 |[],_,n=>n
 |t::ts,m,n=>if m<n then n else VH ts m (n+ZP t (m-n))
end
variable (t:Ty)
theorem A5S(m:Nat):ZP t m=if t.D6.length=0 then 0 else VH t.D6 m 1:=by cases t;rw[ZP];rfl
def A5T:∀m,(JA t<=m->ZP t m=JA t)/\(m<JA t->m<ZP t m/\ZP t m<=JA t):=by
 induction t using Ty.ind with
 |h t ih=>
   intro m;rw[A5S,Sr];split
   ·exact⟨λ_=>rfl,λh=>by omega⟩
   ·have key:∀(ts:List Ty),(∀k∈ts,k∈t.D6)->∀n,(n+Bc ts<=m->VH ts m n=n+Bc ts)/\(m<n+Bc ts->m<VH ts m n/\VH ts m n<=n+Bc ts):=by
     intro ts;induction ts with
     |nil=>intro _ n;simp[Bc,VH]
     |cons k ts ihs=>
       intro hs n;obtain⟨i1,i2⟩:=ih k (hs k (znq ..)) (m-n);have ii:=ihs (λw hw=>hs w (zpq _ hw)) (n+ZP k (m-n));rw[Bc,VH];by_cases pW:m<n
       ·rw[C8 pW];omega
       ·rw[A7 pW];by_cases g:JA k<=m-n
        ·rw[i1 g]at ii ⊢;omega
        ·have:=i2 (by omega);omega
    have:=key t.D6 (λk hk=>hk) 1;exact this
def A9L:JA t<=t.size:=by
 induction t using Ty.ind with
 |h t ih=>
   rw[Sr,Ty.size_eq];split
   ·omega
   ·have:∀ts:List Ty,(∀k∈ts,k∈t.D6)->Bc ts<=(ts.map Ty.size).sum:=by
     intro ts;induction ts with
     |nil=>intro _;simp[Bc]
     |cons k ts ihs=>intro hs;have:=ih k (hs k (znq ..));have:=ihs λw hw=>hs w (zpq _ hw);rw[Bc,zsq,zPq];omega
    have:=this t.D6 λk hk=>hk;omega
def A1Q(l:List Ty):O3 (.list 3 (l.map Ty.D9))=some (iN l.length):=by simp[iN]
def A5K{l:List Ty}{j:Nat}(h:j<l.length):M9 3 (.list 3 (l.map Ty.D9)) (iN j)=some l[j].D9:=V5 h
def B5E:t.size<2 ^ 40->t.D6.length<2 ^ 31->t.rc->∀m,m<2 ^ 31->C9.p Tk [t.D9,iN m]=some (iN (ZP t m)):=by
 induction t using Ty.ind with
 |h t ih=>
   intro hz hl hr m hm;rw[A1B,A3B,A5S];simp only[BN,F8,Ty.DZ,A1Q,I6,show(DV.int .i64 0)=iN 0 from rfl,show(DV.int .i64 1)=iN 1 from rfl,Nw,F3,I9]
   split
   ·rfl
   ·have key:∀(q j n:Nat),j+q=t.D6.length->n+Bc (t.D6.drop j)<2 ^ 41->Ot C9 (iN m) (iN n) (.list 3 (t.D6.map Ty.D9)) (iN t.D6.length) (iN j)=some (iN (VH (t.D6.drop j) m n)):=by
     intro q;induction q with
     |zero=>intro j n hj hn;rw[aN,z8q (by omega)];simp only[Aq,I6,F3,I9];rw[A7 (by omega),VH]
     |succ q ihq=>
       intro j n hj hn;have P8:j<t.D6.length:=by omega
       rw[z4q P8,Bc]at hn;rw[aN,z4q P8,VH];simp only[Aq,I6,F3,I9,C8 P8,A5K P8,xD]
       split
       ·rfl
       ·rename_i pW;have hk:=z3q P8;have kz:=Ty.FR hk;have kl:(t.D6[j]).D6.length<2 ^ 31:=by
         rcases(hr.kid hk).E8 with⟨e,-⟩ | ⟨-,-,-,e,-⟩
         ·rw[e];simp
         ·have:=Zz (t.D6[j]).E8.toNat;omega
        have mi:=A5T t.D6[j] (m-n);have:ZP t.D6[j] (m-n)<=JA t.D6[j]:=by
         by_cases g:JA t.D6[j]<=m-n
         ·exact Nat.le_of_eq (mi.1 g)
         ·exact(mi.2 (by omega)).2
        simp only[B0u (show n<=m by omega) (show m<2 ^ 62 by omega),I6,Ty.CJ,Ty.FL,Ty.DZ,Ty.BD,Ty.ag]
        rw[ih _ hk (by omega) kl (hr.kid hk) (m-n) (by omega),I6,A4g (by omega),I6];simp only[addN (show j<2 ^ 62 by omega),I6]
        exact ihq (j+1) _ (by omega) (by omega)
    have iz:=A9L t;rw[Sr,A7 (by assumption)]at iz;have:=key t.D6.length 0 1 (by omega) (by rw[zcq];omega);rw[zcq]at this;exact this
theorem B7r:t.rc->∀(S:E9)(sg:List E5),Y6 b i S sg->S.Ok->S.cnt+JA t<=S.mx->XY b i sg (C9.r Lr [(.undef,.ptr b 0),(t.D9,.val)] sg) [iN (La t S).2] (La t S).1:=by
 induction t using Ty.ind with
 |h t ih=>
   intro hr S sg h ok hc;have start:=(qf b t.D9 sg).trans (sI _ _ _ _);rw[A10];rw[Sr]at hc;simp only[BN,F8,Ty.CJ,Ty.DZ,A1Q,I6,show(DV.int .i64 0)=iN 0 from rfl,Nw,F3,I9]at start;split
   ·rename_i hl;rw[C8 hl]at start;have:D7 .sub (iI t.E8) (iI 1)=some (iN (t.E8-1).toNat):=by
     rcases hr.E8 with⟨-,h1,h2,-⟩ | ⟨e,-⟩
     ·rw[Je,GX (by omega) (by omega)];simp only[iN]
      congr 2;omega
     ·exact absurd (zMq.1 hl) e
    simp only[this,I6]at start;exact⟨sg,start,h,Kp.refl _⟩
   ·rename_i hl;rw[A7 hl]at start hc;have key:∀(q j:Nat)(o:List Nat)(S:E9)(sg:List E5),j+q=t.D6.length->o.length<=j->Y6 b i S sg->S.Ok->S.cnt+Bc (t.D6.drop j)<=S.mx->
     ∃sg',DU C9 b (.list 1 (o.map iN)) (.list 3 (t.D6.map Ty.D9)) (iN t.D6.length) (iN j) t.D9 sg=DU C9 b (.list 1 ((o++(BR (t.D6.drop j) S).2).map iN)) (.list 3 (t.D6.map Ty.D9)) (iN t.D6.length) (iN t.D6.length) t.D9 sg'/\Y6 b i (BR (t.D6.drop j) S).1 sg'/\Kp b i sg sg':=by
     intro q;induction q with
     |zero=>intro j o S sg hj ho h ok hc;rw[z8q (by omega),show j=t.D6.length by omega];exact⟨sg,by rw[BR];simp,h,Kp.refl _⟩
     |succ q ihq=>
       intro j o S sg hj ho h ok hc;have P8:j<t.D6.length:=by omega
       have h2:t.D6.length<2 ^ 31:=by
        rcases hr.E8 with⟨e,-⟩ | ⟨-,-,-,e,-⟩
        ·rw[e];simp
        ·have:=Zz t.E8.toNat;omega
       rw[z4q P8,Bc]at hc;rw[z4q P8,BR];have hk:=z3q P8;obtain⟨K6,e1,a1,k1⟩:=ih _ hk (hr.kid hk) S sg h ok (by omega);obtain⟨p,-⟩:=We _ (hr.kid hk) S ok (by omega);have pc:=p.cnt;have pm:=p.U2.mx;obtain⟨sg2,e2,a2,k2⟩:=ihq (j+1) (o++[(La t.D6[j] S).2]) _ K6 (by omega) (by simp;omega) a1 p.ok (by omega);refine⟨sg2,?_,a2,k1.trans k2⟩;rw[TI];simp only[Aq,I6,F3,I9,C8 P8,A5K P8,Ty.CJ,Ty.FL,Ty.DZ,Ty.BD,Ty.ag,e1,z0q,O8,F8,xq (show o.length<2 ^ 31 by omega),addN (show j<2 ^ 62 by omega)]
       rw[e2];simp
    obtain⟨K6,e1,a1,k1⟩:=key t.D6.length 0 [] S sg (by omega) (by simp) h ok (by rw[zcq];omega);rw[zcq]at e1 a1;obtain⟨p,-⟩:A4d S (BR t.D6 S).1 (Bc t.D6)/\True:=by
     have:∀(ts:List Ty),(∀k∈ts,k∈t.D6)->∀S:E9,S.Ok->S.cnt+Bc ts<=S.mx->A4d S (BR ts S).1 (Bc ts):=by
      intro ts;induction ts with
      |nil=>intro _ S ok _;exact⟨ok,DC.refl S,rfl,rfl⟩
      |cons k ts ihs=>intro hs S ok hc;rw[Bc]at hc;obtain⟨p,-⟩:=We k (hr.kid (hs k (znq ..))) S ok (by omega);have pc:=p.cnt;have pm:=p.U2.mx;have c:=ihs (λw hw=>hs w (zpq _ hw)) _ p.ok (by omega);rw[BR,Bc];exact⟨c.ok,p.U2.trans c.U2,by have:=c.cnt;simp only;omega,c.J7.trans p.J7⟩
     exact⟨this t.D6 (λk hk=>hk) S ok (by omega),trivial⟩
    have pl:=p.ok.len;have pc:=p.ok.cm;have pm:=p.ok.mm;obtain⟨sg2,e2,a2,k2⟩:=A05 a1 (by omega) (by omega) t.E8.toNat 0 (BR t.D6 S).2;refine⟨sg2,?_,a2,k1.trans k2⟩;refine start.trans ?_;have Ie:DU C9 b (.list 1 []) (.list 3 (t.D6.map Ty.D9)) (iN t.D6.length) (iN 0) t.D9 sg=_:=e1;rw[Ie,TI];have hkd:(DV.int .i64 t.E8)=iN t.E8.toNat:=by rcases hr.E8 with⟨-,h1,h2,-⟩ | ⟨-,h1,h2,-⟩<;>simp only[iN]<;>congr 1<;>omega
    simp only[Aq,zrq,R5,I6,F3,z1q,G8,Ty.CJ,hkd,O8,F8,zxq];have e2':C9.r BO [(.undef,.ptr b 0),(.agg [iN t.E8.toNat,iI 0,iI 0,.list 1 ((BR t.D6 S).2.map iN),iI 0],.val)] K6=_:=e2;rw[e2'];rfl
theorem B7m(h:Y6 b i S sg)(ok:S.Ok){t:Ty}(ht:t.rc)(hz:t.size<2 ^ 40)(Xt:t.thin=true):
 XY b i sg (C9.r RS [(.undef,.ptr b 0),(t.D9,.val)] sg) [iN (S.put t).2.1,iN (S.put t).2.2] (S.put t).1:=by
 obtain⟨cs,c0,c1,c2⟩:=h.cnt;have hc:=ok.cm;have hm:=ok.mm;have hl:t.D6.length<2 ^ 31:=by
  rcases ht.E8 with⟨e,-⟩ | ⟨-,-,-,e,-⟩
  ·rw[e];simp
  ·have:=Zz t.E8.toNat;omega
 have start:=(qb b t.D9 sg).trans (sD _ _ _ _);simp only[BN,F8,Ty.CJ,Ty.FL,Ty.DZ,Ty.BD,Ty.ag,uR t Xt,ht.1,F6,I6,Dm,K3,z5q,Q4,z1q,G8,qB t Xt,ht.2,U1,F3,c0,c1,c2,B0u hc (show S.mx<2 ^ 62 by omega),B5E t hz hl ht (S.mx-S.cnt) (by omega),xD,I9]at start;have mi:=A5T t (S.mx-S.cnt);unfold E9.put;by_cases g:JA t>S.mx-S.cnt
 ·rw[C8 (mi.2 g).1]at start;rw[C8 g];exact⟨sg,start,h,Kp.refl _⟩
 ·rw[A7 (by rw[mi.1 (by omega)];omega)]at start;rw[A7 g];obtain⟨K6,e1,a1,k1⟩:=B7r t ht S sg h ok (by omega);refine⟨K6,?_,a1,k1⟩;rw[start,e1];rfl
end
end Go.Su

/-
 The store's functions: nodes are read; a new store.
-/
namespace Go.Su
set_option linter.defProp false
section
variable {b i v:Nat}{S:E9}{ms:List Nat}{sg:List E5}{k:Nat}
def EW.fC(h:EW b i S ms v sg)(h1:k≠b)(h2:k≠i)(o:E5):EW b i S ms v (sg.set k o) :=h.mono (z2q h1) (z2q h2)
def EK{sg:List E5}(h:k<sg.length)(es:List (DV×DV)):S9 (sg.set k (.map false es)) k=some (false,es):=by simp[S9,h]
def Lb{sg:List E5}{j:Nat}(h:k≠j)(o:E5):S9 (sg.set k o) j=S9 sg j:=by unfold S9;rw[z2q h]
variable (es:List (DV×DV))
def A9V(a c:Nat)(x:DV):Y1 (Bt es (iN a) x) (iN c)=if a=c then some x else Y1 es (iN c):=by
 have:=tq es (a:Int) (c:Int) x;rw[show iN a=.int .i64 (a:Int)from rfl,show iN c=.int .i64 (c:Int)from rfl,this];by_cases h:a=c
 ·rw[C8 h,C8 (by omega)]
 ·rw[A7 h,A7 (by omega)]
def NI(f:Nat->Option DV):Prop:=∀r:Nat,Y1 es (iN r)=none\/Y1 es (iN r)=f r
theorem NI.nil(f:Nat->Option DV):NI [] f:=λr=>.inl rfl
def NI.set{es:List (DV×DV)}{f:Nat->Option DV}(h:NI es f){r:Nat}{x:DV}(hx:f r=some x):NI (Bt es (iN r) x) f:=λc=>by
 rw[A9V];by_cases e:r=c
 ·subst e;rw[C8 rfl];exact .inr hx.symm
 ·rw[A7 e];exact h c
def rdc(b m k1 k2:Nat):List (DV×F4):=[(.undef,.ptr b 0),(iN m,.val),(.undef,.map k1),(.undef,.map k2)]
structure dF(b i:Nat)(S:E9)(m p k1 k2:Nat)(sg:List E5)(e1 e2:List (DV×DV)):Prop where
 at_:∃ms v,EW b i S ms v sg
 box:H5 sg p=some (rdc b m k1 k2)
 m1:S9 sg k1=some (false,e1)
 m2:S9 sg k2=some (false,e2)
def dF.ne{m p k1 k2:Nat}{e1 e2:List (DV×DV)}(h:dF b i S m p k1 k2 sg e1 e2):k1≠b/\k1≠i/\k1≠p/\k2≠b/\k2≠i/\k2≠p/\k1<sg.length/\k2<sg.length:=by
 obtain⟨ms,v,a⟩:=h.at_;have x1:=Wn a.box;have x2:=zA a.P7;have x3:=Wn h.box;have x4:sg[k1]?=some (.map false e1):=by have:=h.m1;unfold S9 at this;split at this<;>simp_all
 have x5:sg[k2]?=some (.map false e2):=by have:=h.m2;unfold S9 at this;split at this<;>simp_all
 refine⟨?_,?_,?_,?_,?_,?_,(z7q.1 x4).1,(z7q.1 x5).1⟩<;>intro e<;>subst e<;>simp_all
def dF.set1{m p k1 k2:Nat}{e1 e2:List (DV×DV)}(h:dF b i S m p k1 k2 sg e1 e2)(hk:k1≠k2)(es:List (DV×DV)):dF b i S m p k1 k2 (sg.set k1 (.map false es)) es e2:=by obtain⟨a1,a2,a3,a4,a5,a6,a7,a8⟩:=h.ne;obtain⟨ms,v,a⟩:=h.at_;exact⟨⟨ms,v,a.fC a1 a2 _⟩,by rw[Cm a3];exact h.box,EK a7 es,by rw[Lb hk];exact h.m2⟩
def dF.set2{m p k1 k2:Nat}{e1 e2:List (DV×DV)}(h:dF b i S m p k1 k2 sg e1 e2)(hk:k1≠k2)(es:List (DV×DV)):dF b i S m p k1 k2 (sg.set k2 (.map false es)) e1 es:=by obtain⟨a1,a2,a3,a4,a5,a6,a7,a8⟩:=h.ne;obtain⟨ms,v,a⟩:=h.at_;exact⟨⟨ms,v,a.fC a4 a5 _⟩,by rw[Cm a6];exact h.box,by rw[Lb (Ne.symm hk)];exact h.m1,EK a8 es⟩
def U8.B4u{S:E9}{n:Nat}{t:NT}(h:U8 S n t):S.L6 t.r=t:=h.self.eq
def A6O{m:Nat}:∀(ts:List NT)(k:Nat),k<=m+1->NT.IR m ts k<=m+1
 |[],k,h=>by rw[NT.IR];exact h
 |t::ts,k,h=>by rw[NT.IR];exact A6O ts _ (ygq ..)
def B3Q(m:Nat)(t:NT):t.Bh m<=m+1:=by cases t;rw[NT.Bh];exact A6O _ _ (by omega)
def B5I(ok:S.Ok){m p k1 k2:Nat}(hm:m<2 ^ 31)(hk:k1≠k2)(t:NT):∀(n:Nat),U8 S n t->∀(sg:List E5)(e1 e2:List (DV×DV)),dF b i S m p k1 k2 sg e1 e2->NI e1 (λr=>some (iN ((S.L6 r).Bh m)))->
 ∃es,C9.r Ik [(.undef,.ptr p 0),(iN n,.val)] sg=some ([iN (t.Bh m)],sg.set k1 (.map false es))/\NI es (λr=>some (iN ((S.L6 r).Bh m))):=by
 induction t using NT.ind with
 |h r k ts ih=>
   intro n hu sg e1 e2 h T;obtain⟨d,d1,d2,d3,d4,d5⟩:=hu.nd;simp only[NT.Jm,NT.WW,NT.X0]at d1 d3 d4 d5;obtain⟨ms,v,a⟩:=h.at_;obtain⟨q1,q2,q3,-,-,-,q7,-⟩:=h.ne;obtain⟨mk,-,-,e⟩:=a.nd d1;have hr:=hu.Hg;have Rz:=hu.root;have hs:=hu.B4u;simp only[NT.Jm]at hr Rz hs;have cp:X7 (rdc b m k1 k2) 0=some b:=rfl;have cm:Bp (rdc b m k1 k2) 2=some k1:=rfl;have cd:U7 (rdc b m k1 k2) 1=some (iN m):=rfl;have KF:=ok.k2 d1;rw[gp,jT];simp only[h.box,I6,cp,Qx a Rz,z0q,cm,LY,zjq,F8,h.m1,beq_self_eq_true,F3,a.box,CR,Jd hr,a.P7,e,nd3,Sv];rcases T r with g | g
   ·rw[g];simp only[zyq,z1q,G8];have key:∀(q j c:Nat)(sg:List E5)(e1 e2:List (DV×DV)),j+q=ts.length->c<=m+1->dF b i S m p k1 k2 sg e1 e2->NI e1 (λr=>some (iN ((S.L6 r).Bh m)))->NT.IR m (ts.drop j) c=(NT.mk r k ts).Bh m->
     ∃es,Fh C9 p (iN r) (iN c) (.list 1 (d.D6.map iN)) (iN d.D6.length) (iN j) sg=some ([iN ((NT.mk r k ts).Bh m)],sg.set k1 (.map false es))/\NI es (λr=>some (iN ((S.L6 r).Bh m))):=by
     intro q;induction q with
     |zero=>intro j c sg e1 e2 hj hc h T he;rw[z8q (by omega),NT.IR]at he;refine⟨Bt e1 (iN r) (iN c),?_,T.set (by rw[hs,he])⟩;rw[Ps];simp only[Aq,I6,F3,I9];rw[A7 (by omega)];simp only[h.box,I6,cm,LY,zjq,F8,h.m1,beq_self_eq_true,he]
     |succ q ihq=>
       intro j c sg e1 e2 hj hc h T he;have FE:j<ts.length:=by omega
       have P8:j<d.D6.length:=by omega
       rw[z4q FE,NT.IR]at he;obtain⟨es,x1,x2⟩:=ih ts[j] (z3q FE) d.D6[j] (d5 j P8 FE) sg e1 e2 h T;have h2:=h.set1 hk es;obtain⟨es2,y1,y2⟩:=ihq (j+1) (min (c+ts[j].Bh m) (m+1)) _ es e2 (by omega) (ygq ..) h2 x2 he;refine⟨es2,?_,y2⟩;rw[zIq]at y1;rw[Ps];have sm:=B3Q m ts[j];have hp:(sg.set k1 (E5.map false es))[p]?=sg[p]?:=z2q q3;have oe:∀{β : Type}(y:Option β),Mf ((sg.set k1 (E5.map false es))[p]?=sg[p]?) y=y:=λy=>by unfold Mf;rw[C8 hp]
       simp only[Aq,I6,F3,I9,C8 P8,IB P8,Bd,F8,x1,z0q,A4g (show c+ts[j].Bh m<2 ^ 62 by omega),h2.box,cd,oe,addN (show m<2 ^ 62 by omega),B6N,addN (show j<2 ^ 62 by omega)]
       exact y1
    obtain⟨es,x1,x2⟩:=key ts.length 0 1 sg e1 e2 (by omega) (by omega) h T (by rw[zcq,NT.Bh]);exact⟨es,x1,x2⟩
   ·rw[g];simp only[zzq,F6,zUq,hs];refine⟨e1,?_,T⟩;have Rx:=h.m1;have:sg.set k1 (.map false e1)=sg:=by
     have x4:sg[k1]?=some (.map false e1):=by unfold S9 at Rx;split at Rx<;>simp_all
     refine zGq λj=>?_;rw[zvq];split
     ·rename_i e;subst e;rw[x4];try simp[q7]
     ·rfl
    rw[this]
theorem A8Y:zTy.D9=.agg (KG []):=by rw[Ty.O4];rfl
def B7t(ok:S.Ok){m p k1 k2:Nat}(hk:k1≠k2)(t:NT):∀(n:Nat),U8 S n t->∀(sg:List E5)(e1 e2:List (DV×DV)),dF b i S m p k1 k2 sg e1 e2->NI e2 (λr=>some (S.L6 r).ty.D9)->
 ∃es,C9.r Fw [(.undef,.ptr p 0),(iN n,.val)] sg=some ([t.ty.D9],sg.set k2 (.map false es))/\NI es (λr=>some (S.L6 r).ty.D9):=by
 induction t using NT.ind with
 |h r k ts ih=>
   intro n hu sg e1 e2 h T;obtain⟨d,d1,d2,d3,d4,d5⟩:=hu.nd;simp only[NT.Jm,NT.WW,NT.X0]at d1 d3 d4 d5;obtain⟨ms,v,a⟩:=h.at_;obtain⟨-,-,-,q1,q2,q3,-,q7⟩:=h.ne;obtain⟨mk,-,-,e⟩:=a.nd d1;have hr:=hu.Hg;have Rz:=hu.root;have hs:=hu.B4u;simp only[NT.Jm]at hr Rz hs;have cp:X7 (rdc b m k1 k2) 0=some b:=rfl;have cm:Bp (rdc b m k1 k2) 3=some k2:=rfl;have KF:=ok.k2 d1;rw[jm,mD];simp only[h.box,I6,cp,Qx a Rz,z0q,cm,LY,zjq,F8,h.m2,beq_self_eq_true,F3,a.box,CR,Jd hr,a.P7,e,nd0,O8,show(DV.int .i64 6)=iN 6 from rfl,Nw,I9]
   rcases T r with g | g
   ·rw[g];have ia:I7 3 (DV.agg (KG []))=true:=rfl;simp only[zyq,z1q,G8,yqq,ia,F8];have key:∀(q j:Nat)(o:List Ty)(sg:List E5)(e1 e2:List (DV×DV)),j+q=ts.length->o=(ts.take j).map NT.ty->dF b i S m p k1 k2 sg e1 e2->NI e2 (λr=>some (S.L6 r).ty.D9)->∀nn:Nat,nn=(if k=6 then r else 0)->
     ∃es,EB C9 p (iN r) (.list 1 (d.D6.map iN)) (iN d.D6.length) (iN j) (iN k) (iN nn) (.list 3 (o.map Ty.D9)) sg=some ([(NT.mk r k ts).ty.D9],sg.set k2 (.map false es))/\NI es (λr=>some (S.L6 r).ty.D9):=by
     intro q;induction q with
     |zero=>
       intro j o sg e1 e2 hj ho h T nn hn;have he:DV.agg [iN k,iN nn,.list 3 (o.map Ty.D9)]=(NT.mk r k ts).ty.D9:=by
        rw[NT.ty,NT.A7c,Ty.O4,ho,zDq (by omega)];simp only[Ty.JV,Ty.iB,Ty.X0,iN,hn]
        split<;>rfl
       refine⟨Bt e2 (iN r) (NT.mk r k ts).ty.D9,?_,T.set (by rw[hs])⟩;rw[RJ];simp only[Aq,I6,F3,I9];rw[A7 (by omega)];simp only[h.box,I6,cm,LY,zjq,F8,h.m2,beq_self_eq_true,he]
     |succ q ihq=>
       intro j o sg e1 e2 hj ho h T nn hn;have FE:j<ts.length:=by omega
       have P8:j<d.D6.length:=by omega
       obtain⟨es,x1,x2⟩:=ih ts[j] (z3q FE) d.D6[j] (d5 j P8 FE) sg e1 e2 h T;have h2:=h.set2 hk es;obtain⟨es2,y1,y2⟩:=ihq (j+1) (o++[ts[j].ty]) _ e1 es (by omega) (by rw[ho,zNq FE,ycq];rfl) h2 x2 nn hn;refine⟨es2,?_,y2⟩;rw[zIq]at y1;rw[RJ];have ap:EP 3 (.list 3 (o.map Ty.D9)) (.list 3 [ts[j].ty.D9])=some (.list 3 ((o++[ts[j].ty]).map Ty.D9)):=by rw[Kn (by rw[ho];simp[R9];omega)];simp
       simp only[Aq,I6,F3,I9,C8 P8,IB P8,Bd,F8,x1,z0q,BN,ap,addN (show j<2 ^ 62 by omega)]
       exact y1
    have eight:∀nn:Nat,Hz C9 p (iN r) (iN k) (iN nn) sg=EB C9 p (iN r) (.list 1 (d.D6.map iN)) (iN d.D6.length) (iN 0) (iN k) (iN nn) (.list 3 []) sg:=by
     intro nn;rw[gK];simp only[h.box,I6,cp,a.box,CR,Jd hr,a.P7,e,beq_self_eq_true,F8,nd3,Sv]
     try rfl
    by_cases h6:d.E8=6
    ·rw[C8 h6,d3,eight r];exact key ts.length 0 [] sg e1 e2 (by omega) rfl h T r (by rw[C8 (by omega)])
    ·rw[A7 h6];have:=key ts.length 0 [] sg e1 e2 (by omega) rfl h T 0 (by rw[A7 (by omega)]);rw[d3];exact⟨this.choose,(eight 0).trans this.choose_spec.1,this.choose_spec.2⟩
   ·rw[g];simp only[zzq,F6,zUq,hs,BN,F8,Ty.CJ,Ty.FL,Ty.DZ,Ty.BD,Ty.ag];refine⟨e2,?_,T⟩;have Rx:=h.m2;have:sg.set k2 (.map false e2)=sg:=by
     have x4:sg[k2]?=some (.map false e2):=by unfold S9 at Rx;split at Rx<;>simp_all
     refine zGq λj=>?_;rw[zvq];split
     ·rename_i e;subst e;rw[x4];try simp[q7]
     ·rfl
    rw[this]
theorem B5y(h:Y6 b i S sg)(ok:S.Ok){n:Nat}(hn:n<S.l.length):XY b i sg (C9.r Gw [(.undef,.ptr b 0),(iN n,.val)] sg) [(S.read n).2.1.D9,iN (S.read n).2.2] (S.read n).1:=by
 obtain⟨cs,c0,c1,c2⟩:=h.cnt;have hc:=ok.cm;have hm:=ok.mm;obtain⟨ms,v,a⟩:=id h
 let k:=sg.length
 let K6:=sg++[.map false [],.map false [],.box (rdc b (S.mx-S.cnt) k (k+1))]
 have R1:dF b i S (S.mx-S.cnt) (k+2) k (k+1) K6 [] []:=by refine⟨⟨ms,v,a.app _⟩,?_,?_,?_⟩<;>simp[K6,H5,S9,k,zmq]
 have hk:k≠k+1:=by omega
 obtain⟨es,x1,x2⟩:=B5I ok (show S.mx-S.cnt<2 ^ 31 by omega) hk (S.L6 n) n (ok.L6 hn) K6 [] [] R1 (NI.nil _);have R2:=R1.set1 hk es;have start:=(mW b (iN n) sg).trans (qQ _ _ _ _);have s1:((sg++[E5.map false []])++[E5.map false []])++[E5.box [(.undef,(.ptr b 0)),(iN (S.mx-S.cnt),.val),(.undef,(F4.map sg.length)),(.undef,(F4.map (sg++[E5.map false []]).length))]]=K6:=by simp[K6,rdc,k]
 have s2:((sg++[E5.map false []])++[E5.map false []]).length=k+2:=by simp[k]
 have cd:U7 (rdc b (S.mx-S.cnt) k (k+1)) 1=some (iN (S.mx-S.cnt)):=rfl;simp only[YE h,I6,z0q,U1,hn,K3,z5q,F3,z1q,G8,c0,c1,c2,B0u hc (show S.mx<2 ^ 62 by omega),O8,F8,s1,s2,x1,R2.box,cd,xD,I9]at start;have K1:Kp b i sg K6:=Kp.app sg _;have K2:Kp b i sg (K6.set k (.map false es)):=⟨by simp[K6],λj hj h1 h2=>by rw[z2q (by omega)];exact K1.eq j hj h1 h2⟩
 unfold E9.read;by_cases g:(S.L6 n).Bh (S.mx-S.cnt)>S.mx-S.cnt
 ·rw[C8 g]at start ⊢;exact⟨_,by rw[start,<- A8Y];rfl,by obtain⟨ms,v,a⟩:=R2.at_;exact⟨ms,v,a⟩,K2⟩
 ·rw[A7 g]at start ⊢;obtain⟨ms2,v2,a2⟩:=R2.at_
  let S':E9:={ S with cnt:=S.cnt+(S.L6 n).Bh (S.mx-S.cnt) }
  have ok':S'.Ok:=⟨λn hn=>by obtain⟨t,ht⟩:=ok.wf n hn;exact⟨t,ht.like (show Z0 S S' from Z0.refl S)⟩,ok.base,by have:=ok.lc;simp only[S'];omega,by simp only[S'];omega,ok.mm,ok.ki⟩
  let sg2:=(K6.set k (.map false es)).set b (.box (OD i v2 S'))
  have a3:EW b i S' ms2 v2 sg2:=⟨Bg a2.lb _,by rw[nW (Ne.symm a2.ne)];exact a2.P7,a2.len,a2.le⟩;obtain⟨q1,q2,q3,q4,q5,q6,-,-⟩:=R2.ne;have pb:k+2≠b:=by have:=a.lb;omega
  have R3:dF b i S' (S.mx-S.cnt) (k+2) k (k+1) sg2 es []:=⟨⟨ms2,v2,a3⟩,by rw[Cm (Ne.symm pb)];exact R2.box,by rw[Lb (Ne.symm q1)];exact R2.m1,by rw[Lb (Ne.symm q4)];exact R2.m2⟩;obtain⟨es2,y1,y2⟩:=B7t ok' hk (S.L6 n) n ((ok.L6 hn).like (show Z0 S S' from Z0.refl S)) sg2 es [] R3 (NI.nil _);have R4:=R3.set2 hk es2;have w1:(OD i v2 S).set 2 (iN (S.cnt+(S.L6 n).Bh (S.mx-S.cnt)),.val)=OD i v2 S':=rfl;have w2:(OD i v2 S)[2]?=some (iN S.cnt,.val):=rfl;refine⟨_,?_,by obtain⟨ms,v,a⟩:=R4.at_;exact⟨ms,v,a⟩,?_⟩;rotate_left
  ·refine⟨by simp[sg2,K6],λj hj h1 h2=>?_⟩;rw[z2q (by omega),z2q (Ne.symm h1)];exact K2.eq j hj h1 h2
  ·rw[start];simp only[a2.box,I6,B5J,A4g (show S.cnt+(S.L6 n).Bh (S.mx-S.cnt)<2 ^ 62 by omega),O8,F8,w2]
   have y1':C9.r Fw [(.undef,.ptr (k+2) 0),(iN n,.val)] ((K6.set k (.map false es)).set b (.box ((OD i v2 S).set 2 (iN (S.cnt+(S.L6 n).Bh (S.mx-S.cnt)),.val))))=_:=y1;rw[y1'];simp only[I6,z0q,BN,F8,Ty.CJ,Ty.FL,Ty.DZ,Ty.BD,Ty.ag]
   try rfl
end
def VQ(k mx:Nat):List E5:=[.box [(.undef,.P7 1 (k+1) 5 k),(iN mx,.val),(iN 0,.val),(iN 0,.val)],.P7 (k+1) 5 ((List.range k).map λj=>(⟨j+1,0,none,[]⟩:Nd).D9 0)]
theorem nM(mx:Nat):∀k,k=1\/k=2\/k=3\/k=4->GA C9 0 (.list 1 [iN 1,iN 2,iN 3,iN 4,iN 5]) (iN 5) (iN k) (VQ k mx)=GA C9 0 (.list 1 [iN 1,iN 2,iN 3,iN 4,iN 5]) (iN 5) (iN (k+1)) (VQ (k+1) mx):=by rintro k (rfl | rfl | rfl | rfl)<;>rw[UX]<;>rfl
theorem B7l(L:Int):C9.r fZ [(iI L,.val)] []=some ([.int .u64 0],VQ 5 (min (max L 0) 65536).toNat):=by
 refine(A3X _ _).trans ?_;rw[A45];have h1:xz (iI L) (iI 0)=some (iI (max L 0)):=by
  simp only[xz,F6]
  congr 2;split<;>omega
 have h2:aF (iI (max L 0)) (iI 65536)=some (iN (min (max L 0) 65536).toNat):=by
  simp only[aF,F6,iN]
  congr 2;split<;>omega
 simp only[h1,h2,I6,O8,F8];generalize (min (max L 0) 65536).toNat=mx;have e0:GA C9 ([]:List E5).length (.list 1 [iI 1,iI 2,iI 3,iI 4,iI 5]) (iI 5) (iI 0) ([]++[E5.box [((.list 5 []),.full),(iN mx,.val),((iI 0),.val),((iI 0),.val)]])=GA C9 0 (.list 1 [iN 1,iN 2,iN 3,iN 4,iN 5]) (iN 5) (iN 1) (VQ 1 mx):=by rw[UX];rfl
 rw[e0,nM mx 1 (by simp),nM mx 2 (by simp),nM mx 3 (by simp),nM mx 4 (by simp),UX];rfl
def B7u(mx:Nat):Y6 0 1 (EU mx) (VQ 5 mx):=⟨[0,0,0,0,0],6,rfl,rfl,rfl,by simp[EU]⟩
def A6S{b i:Nat}{S:E9}{sg:List E5}(h:Y6 b i S sg):C9.r OX [(.undef,.ptr b 0)] sg=some ([iN S.cnt],sg):=by refine(jf _ _).trans ?_;obtain⟨cs,c0,c1,c2⟩:=h.cnt;rw[lh];simp only[c0,c2,I6]
end Go.Su

/-
 The store's functions: copies.
-/
namespace Go.Su
set_option linter.defProp false
section
variable {b i v:Nat}{S:E9}{ms:List Nat}{sg:List E5}
def wW(b kt kh km:Nat):List (DV×F4):=[(.undef,.ptr b 0),(.undef,.map kt),(.undef,.map kh),(.undef,.map km)]
variable (es:List (DV×DV))(K:List (Nat×Nat))
def Ic:Prop:=∀r:Nat,Y1 es (iN r)=(Gh K r).map iN
theorem Ic.nil:Ic [] []:=λr=>rfl
variable {es:List (DV×DV)}{K:List (Nat×Nat)}
def Ic.set(h:Ic es K){r t:Nat}(hr:r∉K.map (·.1)):Ic (Bt es (iN r) (iN t)) (K++[(r,t)]):=λc=>by
 rw[A9V,B1e hr];split
 ·rfl
 ·exact h c
def Qf(S0:E9)(ks:List Nat)(es:List (DV×DV)):Prop:=∀r:Nat,Y1 es (iN r)=none\/∃t,U8 S0 r t/\Y1 es (iN r)=some (iN (if t.has ks then 1 else 2))
variable {S0:E9}
def Qf.set{ks:List Nat}(h:Qf S0 ks es){r:Nat}{t:NT}(hu:U8 S0 r t):Qf S0 ks (Bt es (iN r) (iN (if t.has ks then 1 else 2))):=λc=>by
 rw[A9V];split
 ·rename_i e;subst e;exact .inr ⟨t,hu,rfl⟩
 ·exact h c
structure Ra(b i:Nat)(S:E9)(p kt kh km:Nat)(sg:List E5)(et eh em:List (DV×DV)):Prop where
 at_:Y6 b i S sg
 box:H5 sg p=some (wW b kt kh km)
 mt:S9 sg kt=some (false,et)
 mh:S9 sg kh=some (false,eh)
 mm:S9 sg km=some (false,em)
def bT{sg:List E5}{k:Nat}(h:S9 sg k=some (false,es)):sg[k]?=some (.map false es):=by unfold S9 at h;split at h<;>simp_all
structure Apart(b i p kt kh km n:Nat):Prop where
 a:kt≠kh/\kt≠km/\kh≠km
 t:kt≠b/\kt≠i/\kt≠p
 h:kh≠b/\kh≠i/\kh≠p
 m:km≠b/\km≠i/\km≠p
 pp:p≠b/\p≠i
 l:kt<n/\kh<n/\km<n/\p<n
variable {p kt kh km:Nat}{et eh em:List (DV×DV)}
def Ra.B0g(h:Ra b i S p kt kh km sg et eh em)(A:Apart b i p kt kh km sg.length)(es:List (DV×DV)):Ra b i S p kt kh km (sg.set kh (.map false es)) et es em:=by obtain⟨ms,v,a⟩:=h.at_;exact⟨⟨ms,v,a.fC A.h.1 A.h.2.1 _⟩,by rw[Cm A.h.2.2];exact h.box,by rw[Lb (Ne.symm A.a.1)];exact h.mt,EK A.l.2.1 es,by rw[Lb A.a.2.2];exact h.mm⟩
def Ra.B8Y(h:Ra b i S p kt kh km sg et eh em)(A:Apart b i p kt kh km sg.length)(es:List (DV×DV)):Ra b i S p kt kh km (sg.set km (.map false es)) et eh es:=by obtain⟨ms,v,a⟩:=h.at_;exact⟨⟨ms,v,a.fC A.m.1 A.m.2.1 _⟩,by rw[Cm A.m.2.2];exact h.box,by rw[Lb (Ne.symm A.a.2.1)];exact h.mt,by rw[Lb (Ne.symm A.a.2.2)];exact h.mh,EK A.l.2.2.1 es⟩
def Apart.len{n m:Nat}(A:Apart b i p kt kh km n)(h:n<=m):Apart b i p kt kh km m:=⟨A.a,A.t,A.h,A.m,A.pp,by have:=A.l;omega⟩
def Ra.kp{S':E9}{sg':List E5}(h:Ra b i S p kt kh km sg et eh em)(A:Apart b i p kt kh km sg.length)(k:Kp b i sg sg')(a:Y6 b i S' sg'):Ra b i S' p kt kh km sg' et eh em:=by
 refine⟨a,?_,?_,?_,?_⟩
 ·rw[Jo (k.eq p A.l.2.2.2 A.pp.1 A.pp.2)];exact h.box
 all_goals unfold S9
 ·rw[k.eq kt A.l.1 A.t.1 A.t.2.1,bT h.mt]
 ·rw[k.eq kh A.l.2.1 A.h.1 A.h.2.1,bT h.mh]
 ·rw[k.eq km A.l.2.2.1 A.m.1 A.m.2.1,bT h.mm]
theorem Na{sg:List E5}{k:Nat}(h:S9 sg k=some (false,es)):sg.set k (.map false es)=sg:=by
 have x4:=bT h;refine zGq λj=>?_;rw[zvq];split
 ·rename_i e;subst e;rw[x4];simp[(z7q.1 x4).1]
 ·rfl
theorem A6W(hS:Z0 S0 S)(k2:∀(n:Nat)(d:Nd),S.l[n]?=some d->d.D6.length<=2)(t:NT):∀(sg:List E5)(eh:List (DV×DV)),U8 S0 t.r t->Ra b i S p kt kh km sg et eh em->Apart b i p kt kh km sg.length->Ic et K->Qf S0 (K.map (·.1)) eh->
 ∃es,C9.r EZ [(.undef,.ptr p 0),(iN t.r,.val)] sg=some ([.bool (t.has (K.map (·.1)))],sg.set kh (.map false es))/\Qf S0 (K.map (·.1)) es:=by
 induction t using NT.ind with
 |h r k ts ih=>
   intro sg eh xM h A hK T;have hu:=xM.like hS;obtain⟨d,d1,d2,d3,d4,d5⟩:=hu.nd;obtain⟨d',d1',-,-,d4',d5'⟩:=xM.nd;simp only[NT.Jm,NT.WW,NT.X0]at d1 d3 d4 d5 hu xM d1' d4' d5';obtain⟨ms,v,a⟩:=h.at_;obtain⟨mk,-,-,e⟩:=a.nd d1;have hr:=hu.lt;have KF:=k2 _ _ d1;have cp:X7 (wW b kt kh km) 0=some b:=rfl;have c1:Bp (wW b kt kh km) 1=some kt:=rfl;have c2:Bp (wW b kt kh km) 2=some kh:=rfl;rw[cZ,gJ];simp only[NT.Jm,h.box,I6,c2,c1,LY,zjq,F8,h.mh,h.mt,beq_self_eq_true];have h1:(DV.int .i64 1)=iN 1:=rfl;have h2:(DV.int .i64 2)=iN 2:=rfl;have h0:(DV.int .i64 0)=iN 0:=rfl;rcases T r with g | ⟨t,ht,g⟩
   ·rw[g];simp only[yqq,h0,xD,I6,F3,zrq,R5,z1q,G8,hK r];have key:∀(q j x:Nat)(sg:List E5)(eh:List (DV×DV)),j+q=ts.length->Ra b i S p kt kh km sg et eh em->Apart b i p kt kh km sg.length->Qf S0 (K.map (·.1)) eh->(x=1\/x=2)->(decide (x=1)||NT.aj (K.map (·.1)) (ts.drop j))=(NT.mk r k ts).has (K.map (·.1))->
     ∃es,CB C9 p (iN r) (iN x) (.list 1 (d.D6.map iN)) (iN d.D6.length) (iN j) sg=some ([.bool ((NT.mk r k ts).has (K.map (·.1)))],sg.set kh (.map false es))/\Qf S0 (K.map (·.1)) es:=by
     intro q;induction q with
     |zero=>
       intro j x sg eh hj h A T hx he;rw[z8q (by omega),NT.aj,yrq]at he;rw[PH];simp only[Aq,I6,F3,I9];rw[A7 (by omega)];have hxx:x=if (NT.mk r k ts).has (K.map (·.1))then 1 else 2:=by rw[<- he];rcases hx with rfl | rfl<;>rfl
       refine⟨Bt eh (iN r) (iN x),?_,by rw[hxx];exact T.set xM⟩;simp only[h.box,I6,c2,LY,zjq,F8,h.mh,beq_self_eq_true,h1,Nw,he]
     |succ q ihq=>
       intro j x sg eh hj h A T hx he;have FE:j<ts.length:=by omega
       have P8:j<d.D6.length:=by omega
       have hj3:j<d'.D6.length:=by omega
       rw[z4q FE,NT.aj]at he;have hk:=d5 j P8 FE;obtain⟨es,x1,x2⟩:=ih ts[j] (z3q FE) sg eh (d5' j hj3 FE).self h A hK T;have RL:=h.B0g A es;have A2:=A.len (m:=(sg.set kh (.map false es)).length) (by simp);obtain⟨ms,v,a⟩:=h.at_;have rt:=Qx a hk.root;rw[PH];simp only[Aq,I6,F3,I9,C8 P8,IB P8,Bd,F8,h.box,cp,rt,z0q,x1,addN (show j<2 ^ 62 by omega)]
       by_cases hb:ts[j].has (K.map (·.1))=true
       ·rw[C8 hb];simp only[h1];obtain⟨es2,y1,y2⟩:=ihq (j+1) 1 _ es (by omega) RL A2 x2 (.inl rfl) (by rw[<- he,hb];simp);rw[zIq]at y1;exact⟨es2,y1,y2⟩
       ·rw[A7 hb];obtain⟨es2,y1,y2⟩:=ihq (j+1) x _ es (by omega) RL A2 x2 hx (by rw[<- he];simp[hb]);rw[zIq]at y1;exact⟨es2,y1,y2⟩
    have eight:∀x,Fg C9 p (iN r) (iN x) sg=CB C9 p (iN r) (iN x) (.list 1 (d.D6.map iN)) (iN d.D6.length) (iN 0) sg:=by
     intro x;rw[aM];simp only[h.box,I6,cp,a.box,CR,Jd hr,a.P7,e,beq_self_eq_true,F8,nd3,Sv]
     try rfl
    cases hf:Gh K r with
    |none=>have:=Kt.1 hf;simp only[yaq,zyq,z1q,G8,h2,eight];exact key ts.length 0 2 sg eh (by omega) h A T (.inr rfl) (by rw[zcq,NT.has];simp[this])
    |some t=>have:r∈K.map (·.1):=zXq (f:=(·.1)) (Kr hf);simp only[y0q,zzq,F6,h1,eight];exact key ts.length 0 1 sg eh (by omega) h A T (.inl rfl) (by rw[zcq,NT.has];simp[this])
   ·rw[g];have:=ht.uniq xM;subst this;have hp:0<(if (NT.mk r k ts).has (K.map (·.1))=true then 1 else 2):=by split<;>omega
    simp only[zUq,h0,h1,xD,Nw,I6,F3,hp,K3,F6];refine⟨eh,?_,T⟩;rw[Na h.mh];congr 3;cases(NT.mk r k ts).has (K.map (·.1))<;>rfl
def B8m(b i p kt kh km:Nat)(S0:E9)(K:List (Nat×Nat))(et:List (DV×DV))(sg:List E5)(x:Option (List DV×List E5))(ds:List DV)(q:E9×List (Nat×Nat)):Prop :=∃sg' eh em,x=some (ds,sg')/\Ra b i q.1 p kt kh km sg' et eh em/\Ic em q.2/\Qf S0 (K.map (·.1)) eh/\sg.length<=sg'.length/\∀j,j<sg.length->j≠b->j≠i->j≠kh->j≠km->sg'[j]?=sg[j]?
def B5B{n0:Nat}(ok0:S0.Ok)(hK:∀e∈K,e.2<S0.l.length)(hn:S0.need K n0<=S0.mx-S0.cnt){N:List Nat}(hN:N=(S0.roots n0).filter λr=>S0.F9 r != 6&&(S0.L6 r).has (K.map (·.1)))(het:Ic et K)(t:NT):
 ∀n,U8 S0 n t->(∀x∈t.all,x∈S0.roots n0)->∀(S:E9)(M:List (Nat×Nat))(sg:List E5)(eh em:List (DV×DV)),CI S0 N S M->Ra b i S p kt kh km sg et eh em->Apart b i p kt kh km sg.length->Ic em M->Qf S0 (K.map (·.1)) eh->
 B8m b i p kt kh km S0 K et sg (C9.r Ij [(.undef,.ptr p 0),(iN n,.val)] sg) [iN (t.copy K (S,M)).1] (t.copy K (S,M)).2:=by
 induction t using NT.ind with
 |h r k ts ih=>
   intro n xM hx S M sg eh em C h A hM T;have hS:=C.U2.like;have hu:=xM.like hS;obtain⟨d,d1,d2,d3,d4,d5⟩:=hu.nd;obtain⟨d',d1',-,-,d4',d5'⟩:=xM.nd;simp only[NT.Jm,NT.WW,NT.X0]at d1 d3 d4 d5 d1' d4' d5';obtain⟨ms,v,a⟩:=h.at_;obtain⟨mk,-,-,e⟩:=a.nd d1;have hr:=hu.Hg;have Rz:=hu.root;simp only[NT.Jm]at hr Rz;have KF:=C.ok.k2 d1;have cp:X7 (wW b kt kh km) 0=some b:=rfl;have c1:Bp (wW b kt kh km) 1=some kt:=rfl;have c3:Bp (wW b kt kh km) 3=some km:=rfl;have start:=(gZ p (iN n) sg).trans (jS _ _ _ _);simp only[h.box,I6,cp,Qx a Rz,z0q,c1,LY,zjq,F8,h.mt,beq_self_eq_true,het r,F3]at start;rw[NT.copy];cases hf:Gh K r with
   |some t=>simp only[hf,y0q,zzq,F6,zUq]at start;exact⟨sg,eh,em,start,h,hM,T,zfq _,λ_ _ _ _ _ _=>rfl⟩
   |none=>
     obtain⟨es,x1,x2⟩:=A6W hS (λn d h=>C.ok.k2 h) (.mk r k ts) sg eh xM.self h A het T;have h2:=h.B0g A es;have A2:=A.len (m:=(sg.set kh (.map false es)).length) (by simp);obtain⟨ms2,v2,a2⟩:=h2.at_;obtain⟨mk2,-,-,e2⟩:=a2.nd d1;rw[NT.Jm]at x1;simp only[hf,yaq,zyq,z1q,G8,x1,I6,z0q,U1,F3,h2.box,c3,h2.mm,beq_self_eq_true,F8,LY,zjq,hM r]at start;simp only;have fr:∀j,j<sg.length->j≠b->j≠i->j≠kh->j≠km->(sg.set kh (.map false es))[j]?=sg[j]?:=λj _ _ _ h3 _=>z2q (Ne.symm h3);by_cases hh:(NT.mk r k ts).has (K.map (·.1))=false
     ·rw[C8 hh];rw[hh]at start;simp only[z9q,F6]at start;exact⟨_,es,em,start,h2,hM,x2,by simp,fr⟩
     ·rw[A7 hh];have hh':(NT.mk r k ts).has (K.map (·.1))=true:=by simpa using hh
      rw[hh']at start;simp only[z5q,z1q,G8]at start;cases hm:Gh M r with
      |some m=>simp only[hm,y0q,zzq,F6,zUq]at start;exact⟨_,es,em,start,h2,hM,x2,by simp,fr⟩
      |none=>
        simp only[hm,yaq,zyq,z1q,G8,cp,I6,a2.box,CR,Jd hr,a2.P7,e2,beq_self_eq_true,F8,nd3,Sv]at start;have key:∀(q j:Nat)(o:List Nat)(S:E9)(M:List (Nat×Nat))(sg:List E5)(eh em:List (DV×DV)),j+q=ts.length->o.length<=j->CI S0 N S M->Ra b i S p kt kh km sg et eh em->Apart b i p kt kh km sg.length->Ic em M->Qf S0 (K.map (·.1)) eh->
         CI S0 N (NT.T9 K (ts.drop j) (S,M)).2.1 (NT.T9 K (ts.drop j) (S,M)).2.2/\(∀x∈(NT.T9 K (ts.drop j) (S,M)).2.2.map (·.1),x∈M.map (·.1)\/x∈NT.UM ts) /\
         ∃sg' eh' em',B_ C9 p (iN r) (.list 1 (o.map iN)) (.list 1 (d.D6.map iN)) (iN d.D6.length) (iN j) sg=B_ C9 p (iN r) (.list 1 ((o++(NT.T9 K (ts.drop j) (S,M)).1).map iN)) (.list 1 (d.D6.map iN)) (iN d.D6.length) (iN d.D6.length) sg'/\Ra b i (NT.T9 K (ts.drop j) (S,M)).2.1 p kt kh km sg' et eh' em'/\Ic em' (NT.T9 K (ts.drop j) (S,M)).2.2/\Qf S0 (K.map (·.1)) eh'/\sg.length<=sg'.length/\∀j,j<sg.length->j≠b->j≠i->j≠kh->j≠km->sg'[j]?=sg[j]?:=by
         intro q;induction q with
         |zero=>intro j o S M sg eh em hj ho C h A hM T;rw[z8q (by omega),NT.T9,show j=d.D6.length by omega];exact⟨C,λx hx=>.inl hx,sg,eh,em,by simp,h,hM,T,zfq _,λ_ _ _ _ _ _=>rfl⟩
         |succ q ihq=>
           intro j o S M sg eh em hj ho C h A hM T;have FE:j<ts.length:=by omega
           have P8:j<d.D6.length:=by omega
           have hj3:j<d'.D6.length:=by omega
           have mem:=z3q FE;have dk:d.D6=d'.D6:=by obtain⟨d'',g1,-,-,g2⟩:=hS _ _ d1';rw[d1]at g1;cases g1;exact g2
           have Bv:U8 S0 d.D6[j] ts[j]:=by have:=d5' j hj3 FE;simpa only[dk]using this
           have Dr:∀x∈ts[j].all,x∈S0.roots n0:=λx Dr=>hx x (NT.Au.2 (.inr ⟨_,mem,Dr⟩));obtain⟨K6,eh1,em1,y1,y2,y3,y4,y5,y6⟩:=ih ts[j] mem d.D6[j] Bv Dr S M sg eh em C h A hM T;obtain⟨C1,C2,C3⟩:=Zd ok0 hK hn hN ts[j] d.D6[j] Bv Dr S M C;obtain⟨z0,zz,sg2,eh2,em2,z1,z2,z3,z4,z5,z6⟩:=ihq (j+1) (o++[(ts[j].copy K (S,M)).1]) _ _ K6 eh1 em1 (by omega) (by simp;omega) C1 y2 (A.len y5) y3 y4;rw[z4q FE,NT.T9];refine⟨z0,λx hx=>?_,sg2,eh2,em2,?_,z2,z3,z4,zJq y5 z5,λj' h1 h2 h3 h4 h5=>(z6 j' (by omega) h2 h3 h4 h5).trans (y6 j' h1 h2 h3 h4 h5)⟩
           ·rcases zz x hx with g | g
            ·rcases C3 x g with g | g
             ·exact .inl g
             ·exact .inr (QH.2 ⟨_,mem,g⟩)
            ·exact .inr g
           ·rw[PE];simp only[Aq,I6,F3,I9,C8 P8,IB P8,Bd,F8,y1,z0q,O8,xq (show o.length<2 ^ 31 by omega),addN (show j<2 ^ 62 by omega)]
            rw[z1];simp
        obtain⟨C1,C2,K6,eh1,em1,z1,z2,z3,z4,z5,z6⟩:=key ts.length 0 [] S M _ es em (by omega) (by simp) C h2 A2 hM x2;rw[zcq]at C1 C2 z1 z2 z3;have A3:=A2.len z5;obtain⟨ms3,v3,a3⟩:=z2.at_;obtain⟨d3',g1,g2,g3,g4⟩:=C1.U2.like _ _ d1';obtain⟨mk3,-,-,e3⟩:=a3.nd g1;have hr3:=(z7q.1 g1).1;have pl:=C1.ok.len;have pc:=C1.ok.cm;have pm:=C1.ok.mm;obtain⟨sg2,f1,f2,f3⟩:=A05 a3.at (by omega) (by omega) k 0 (NT.T9 K ts (S,M)).1;have z2':=z2.kp A3 f3 f2;have A4:=A3.len f3.le;have rM:r∉(NT.T9 K ts (S,M)).2.2.map (·.1):=by
         intro Vs;rcases C2 r Vs with g | g
         ·exact absurd g (Kt.1 hm)
         ·obtain⟨u,u1,u2⟩:=QH.1 g;exact xM.fresh u1 u2
        have bB:d3'.E8=k:=by rw[g2];obtain⟨d'',g1',g2',-,-⟩:=hS _ _ d1';rw[d1]at g1';cases g1';rw[<- g2'];exact d3
        refine⟨_,eh1,_,start.trans ?_,z2'.B8Y A4 _,z3.set rM,z4,?_,?_⟩
        ·have z1':B_ C9 p (iN r) (.list 1 []) (.list 1 (d.D6.map iN)) (iN d.D6.length) (iI 0) (sg.set kh (.map false es))=_:=z1;rw[z1',PE];have f1':C9.r BO [(.undef,.ptr b 0),(.agg [iN k,iI 0,iI 0,.list 1 ((NT.T9 K ts (S,M)).1.map iN),iI 0],.val)] K6=_:=f1;simp only[Aq,zrq,R5,I6,F3,z1q,G8,z2.box,cp,a3.box,CR,Jd hr3,a3.P7,e3,beq_self_eq_true,F8,nd0,bB,O8,zxq,f1',z0q,z2'.box,c3,LY,zjq,z2'.mm]
        ·have:=f3.le;simp only[zHq]at z5 ⊢;omega
        ·intro j h1 h2 h3 h4 h5;have l1:j<K6.length:=by simp only[zHq]at z5;omega
         rw[z2q (Ne.symm h5),f3.eq j l1 h2 h3,z6 j (by simpa using h1) h2 h3 h4 h5];exact fr j h1 h2 h3 h4 h5
end
end Go.Su

/-
 The store's functions: Copy whole.
-/
namespace Go.Su
set_option linter.defProp false
section
variable {b i v:Nat}{S:E9}{ms:List Nat}{sg:List E5}{p kt kh km:Nat}{et eh em:List (DV×DV)}
def Ra.B7g(h:Ra b i S p kt kh km sg et eh em)(A:Apart b i p kt kh km sg.length)(es:List (DV×DV)):Ra b i S p kt kh km (sg.set kt (.map false es)) es eh em:=by obtain⟨ms,v,a⟩:=h.at_;exact⟨⟨ms,v,a.fC A.t.1 A.t.2.1 _⟩,by rw[Cm A.t.2.2];exact h.box,EK A.l.1 es,by rw[Lb A.a.1];exact h.mh,by rw[Lb A.a.2.1];exact h.mm⟩
def B1q(ok:S.Ok)(n:Nat)(from_ to:List Nat)(hf:∀f∈from_,f<S.l.length)(ht:∀t∈to,t<S.l.length)(hl:from_.length=to.length)(hz:to.length<2 ^ 31):∀(q j:Nat)(K:List (Nat×Nat))(sg:List E5)(et eh em:List (DV×DV)),j+q=from_.length->Ra b i S p kt kh km sg et eh em->Apart b i p kt kh km sg.length->Ic et K->(∀e∈K,e.2<S.l.length)->
 ∃et',(match S.keys (from_.drop j) (to.drop j) K with
   |none=>Ct C9 b (iN n) (.list 1 (to.map iN)) p (.list 1 (from_.map iN)) (iN from_.length) (iN j) sg=some ([iN 0,iN 1],sg.set kt (.map false et'))
   |some K'=>Ct C9 b (iN n) (.list 1 (to.map iN)) p (.list 1 (from_.map iN)) (iN from_.length) (iN j) sg=Ct C9 b (iN n) (.list 1 (to.map iN)) p (.list 1 (from_.map iN)) (iN from_.length) (iN from_.length) (sg.set kt (.map false et'))/\Ic et' K'/\∀e∈K',e.2<S.l.length):=by
 intro q;induction q with
 |zero=>intro j K sg et eh em hj h A T hk;rw[z8q (by omega),E9.keys,show j=from_.length by omega];exact⟨et,by rw[Na h.mt],T,hk⟩
 |succ q ih=>
   intro j K sg et eh em hj h A T hk;have P8:j<from_.length:=by omega
   have FE:j<to.length:=by omega
   have h1:=hf _ (z3q P8);have h2:=ht _ (z3q FE);obtain⟨ms,v,a⟩:=id h.at_;obtain⟨d,d1,-,-,-,d5,-⟩:=ok.nd h1;obtain⟨mk,-,-,e⟩:=a.nd d1;have cp:Bp (wW b kt kh km) 1=some kt:=rfl;have start:=Rm C9 b (iN n) (.list 1 (to.map iN)) p (.list 1 (from_.map iN)) (iN from_.length) (iN j) sg;simp only[Aq,I6,F3,P8,K3,F6,IB P8,Bd,F8,Nl h.at_ ok h1,z0q,tZ,Q4,z1q,G8,IB FE,YE h.at_,h2,U1,z5q,a.box,CR,Jd (ok.Hg h1),a.P7,e,beq_self_eq_true,nd0,show(DV.int .i64 6)=iN 6 from rfl,Vv,d5,h.box,cp,LY,zjq,h.mt,T (S.root from_[j]),addN (show j<2 ^ 62 by omega)]at start;rw[z4q P8,z4q FE,E9.keys];by_cases h6:S.F9 (S.root from_[j])=6
   ·cases jw:Gh K (S.root from_[j])with
    |none=>
      have hn:=Kt.1 jw;rw[C8 ⟨h6,hn⟩];simp only[h6,K3,z5q,z1q,G8,jw,yaq,zyq]at start;have FF:∀e∈K++[(S.root from_[j],to[j])],e.2<S.l.length:=by
       intro e he;rcases zqq.1 he with g | g
       ·exact hk e g
       ·rw[zgq.1 g];exact h2
      obtain⟨et',x⟩:=ih (j+1) (K++[(S.root from_[j],to[j])]) _ _ eh em (by omega) (h.B7g A (Bt et (iN (S.root from_[j])) (iN to[j]))) (A.len (by simp)) (T.set hn) FF;refine⟨et',?_⟩;simp only[List.tail_cons,List.headD_cons];rw[start];rw[zIq]at x;exact x
    |some t=>have hn:S.root from_[j]∈K.map (·.1):=zXq (f:=(·.1)) (Kr jw);rw[A7 (λg=>g.2 hn)];simp only[h6,K3,z5q,z1q,G8,jw,y0q,zzq,F6]at start;exact⟨et,by rw[Na h.mt];exact start⟩
   ·rw[A7 (λg=>h6 g.1)];simp only[h6,R5,z9q,F6]at start;exact⟨et,by rw[Na h.mt];exact start⟩
def B1E(ok:S.Ok)(n:Nat)(hn:n<S.l.length){K:List (Nat×Nat)}(T:Ic et K):∀(q j c:Nat)(sg:List E5)(eh:List (DV×DV)),j+q=(S.roots n).length->c<=j->Ra b i S p kt kh km sg et eh em->Apart b i p kt kh km sg.length->Qf S (K.map (·.1)) eh->
 ∃eh',Az C9 b (iN n) p (iN c) (.list 1 ((S.roots n).map iN)) (iN (S.roots n).length) (iN j) sg=Az C9 b (iN n) p (iN (c+(((S.roots n).drop j).filter λr=>S.F9 r != 6&&(S.L6 r).has (K.map (·.1))).length)) (.list 1 ((S.roots n).map iN)) (iN (S.roots n).length) (iN (S.roots n).length) (sg.set kh (.map false eh'))/\Qf S (K.map (·.1)) eh':=by
 intro q;induction q with
 |zero=>intro j c sg eh hj hc h A H;rw[z8q (by omega),show j=(S.roots n).length by omega];exact⟨eh,by rw[Na h.mh];rfl,H⟩
 |succ q ih=>
   intro j c sg eh hj hc h A H;have P8:j<(S.roots n).length:=by omega
   have hl:=ok.A12 hn;have hx:=ok.NZ hn (z3q P8);obtain⟨u,hu,hur,-⟩:=U8.sub (S.L6 n) n (ok.L6 hn) ((ok.CP hn).1 (z3q P8));obtain⟨ms,v,a⟩:=id h.at_;obtain⟨d,hd⟩:∃d,S.l[(S.roots n)[j]]?=some d:=⟨_,zeq hx⟩;obtain⟨m,-,-,e⟩:=a.nd hd;have start:=RH C9 b (iN n) p (iN c) (.list 1 ((S.roots n).map iN)) (iN (S.roots n).length) (iN j) sg;simp only[Aq,I6,F3,P8,K3,F6,IB P8,Bd,F8,a.box,CR,Jd hx,a.P7,e,beq_self_eq_true,nd0,show(DV.int .i64 6)=iN 6 from rfl,Vv,Q4,addN (show j<2 ^ 62 by omega)]at start;rw[z4q P8,y6q,Dv hd];by_cases h6:d.E8=6
   ·obtain⟨eh',y1,y2⟩:=ih (j+1) c sg eh (by omega) (by omega) h A H;simp only[h6,K3,z5q,z1q,G8]at start;refine⟨eh',?_,y2⟩;rw[start,y1];simp[h6]
   ·obtain⟨es,x1,x2⟩:=A6W (Z0.refl S) (λn d h=>ok.k2 h) u sg eh hu.self h A T H;rw[hur]at x1;have hs:S.L6 (S.roots n)[j]=u:=hu.eq;have h2:=h.B0g A es;have A2:=A.len (m:=(sg.set kh (.map false es)).length) (by simp);simp only[h6,R5,z9q,F6,x1,I6,z0q,F3,addN (show c<2 ^ 62 by omega)]at start;rw[hs];by_cases hh:u.has (K.map (·.1))=true
    ·obtain⟨eh',y1,y2⟩:=ih (j+1) (c+1) _ es (by omega) (by omega) h2 A2 x2;rw[zIq]at y1;rw[C8 hh,y1]at start;refine⟨eh',?_,y2⟩;rw[start];simp[h6,hh,Nat.add_assoc,Nat.add_comm 1]
    ·obtain⟨eh',y1,y2⟩:=ih (j+1) c _ es (by omega) (by omega) h2 A2 x2;rw[zIq]at y1;rw[A7 hh,y1]at start;refine⟨eh',?_,y2⟩;rw[start];simp[h6,hh]
theorem A2X(ok:S.Ok){n:Nat}(hn:n<S.l.length)(K:List (Nat×Nat)):S.tick.need K n=S.need K n:=by
 have hr:S.tick.roots n=S.roots n:=by unfold E9.roots;rw[(ok.L6 hn).tick.eq]
 unfold E9.need;rw[hr];congr 1;refine List.filter_congr λr h=>?_;have:=ok.NZ hn h;rw[(ok.L6 this).tick.eq];rfl
def B5v(h:Y6 b i S sg)(ok:S.Ok)(hr:S.J7+1<2 ^ 62){n:Nat}(hn:n<S.l.length){from_ to:List Nat}(hf:∀f∈from_,f<S.l.length)(ht:∀t∈to,t<S.l.length)(hl:from_.length=to.length)(hz:to.length<2 ^ 31):
 XY b i sg (C9.r PV [(.undef,.ptr b 0),(iN n,.val),(.list 1 (from_.map iN),.val),(.list 1 (to.map iN),.val)] sg) [iN (S.copy n from_ to).2.1,iN (S.copy n from_ to).2.2] (S.copy n from_ to).1:=by
 obtain⟨ms,v,a⟩:=id h;have la:=a.lb;have li:=a.lv
 let k:=sg.length
 let K6:=sg++[.map false [],.map false [],.map false [],.box (wW b k (k+1) (k+2))]
 have C1:Ra b i S (k+3) k (k+1) (k+2) K6 [] [] []:=by refine⟨h.app _,?_,?_,?_,?_⟩<;>simp[K6,H5,S9,k,zmq]
 have A1:Apart b i (k+3) k (k+1) (k+2) K6.length:=by
  have e:K6.length=k+4:=by simp[K6,k]
  rw[e];constructor<;>omega
 have s1:(((sg++[E5.map false []])++[E5.map false []])++[E5.map false []])++[E5.box [(.undef,(.ptr b 0)),(.undef,(F4.map sg.length)),(.undef,(F4.map (sg++[E5.map false []]).length)),(.undef,(F4.map ((sg++[E5.map false []])++[E5.map false []]).length))]]=K6:=by simp[K6,wW,k]
 have s2:(((sg++[E5.map false []])++[E5.map false []])++[E5.map false []]).length=k+3:=by simp[k]
 have start:=(mP b (iN n) (.list 1 (from_.map iN)) (.list 1 (to.map iN)) sg).trans (qL _ _ _ _ _ _);simp only[YE h,hn,K3,I6,z0q,U1,z5q,Q4,z1q,G8,Sv,Vv,hl,F3,s1,s2]at start;have fr:∀(sg':List E5),K6.length<=sg'.length->(∀j,j<k->j≠b->j≠i->sg'[j]?=K6[j]?)->Kp b i sg sg':=λsg' h1 h2=>⟨by simp only[K6,zlq]at h1;omega,λj hj g1 g2=>(h2 j hj g1 g2).trans (zaq hj)⟩
 obtain⟨et,x⟩:=B1q (p:=k+3) (kt:=k) (kh:=k+1) (km:=k+2) ok n from_ to hf ht hl hz from_.length 0 [] K6 [] [] [] (by omega) C1 A1 Ic.nil (by simp);rw[hl]at x;rw[zcq,zcq]at x;have C2:=C1.B7g A1 et;have A2:=A1.len (m:=(K6.set k (.map false et)).length) (by simp);unfold E9.copy;cases hk:S.keys from_ to []with
 |none=>rw[hk]at x;simp only at x ⊢;refine⟨_,start.trans x,C2.at_,fr _ (by simp) λj hj _ _=>z2q (by omega)⟩
 |some K=>
   rw[hk]at x;obtain⟨x1,x2,x3⟩:=x;obtain⟨sg2,r1,r2,r3⟩:=n_ C2.at_ ok hr (ok.L6 hn);have C3:=C2.kp A2 r3 r2;have A3:=A2.len r3.le;have rt:S.tick.roots n=S.roots n:=by unfold E9.roots;rw[(ok.L6 hn).tick.eq]
   obtain⟨eh,y1,y2⟩:=B1E (S:=S.tick) (p:=k+3) (kt:=k) (kh:=k+1) (km:=k+2) ok.tick n hn x2 (S.roots n).length 0 0 sg2 [] (by rw[rt];omega) (by omega) C3 A3 (λr=>.inl rfl);rw[zcq,zKq]at y1;have B7R:((S.tick.roots n).filter λr=>S.tick.F9 r != 6&&(S.tick.L6 r).has (K.map (·.1))).length=S.need K n:=A2X ok hn K;rw[B7R,rt]at y1;have C4:=C3.B0g A3 eh;have A4:=A3.len (m:=(sg2.set (k+1) (.map false eh)).length) (by simp);have nl:S.need K n<=(S.roots n).length:=zSq ..;obtain⟨cs,c0,c1,c2⟩:=C4.at_.cnt;have hc:=ok.cm;have hm:=ok.mm;have c1':U7 cs 1=some (iN S.mx):=c1;have c2':U7 cs 2=some (iN S.cnt):=c2;have e5:=Rm C9 b (iN n) (.list 1 (to.map iN)) (k+3) (.list 1 (from_.map iN)) (iN to.length) (iN to.length) (K6.set k (.map false et));have e17:=RH C9 b (iN n) (k+3) (iN (S.need K n)) (.list 1 ((S.roots n).map iN)) (iN (S.roots n).length) (iN (S.roots n).length) (sg2.set (k+1) (.map false eh));simp only[Aq,zrq,R5,I6,F3,z1q,G8,r1,z0q,Sv]at e5;simp only[Aq,zrq,R5,I6,F3,z1q,G8,c0,c1',c2',B0u hc (show S.mx<2 ^ 62 by omega),xD,I9]at e17;have y1':Az C9 b (iN n) (k+3) (iI 0) (.list 1 ((S.roots n).map iN)) (iN (S.roots n).length) (iI 0) sg2=_:=y1;have st2:=(start.trans x1).trans (e5.trans (y1'.trans e17));have f2:∀j,j<k->j≠b->j≠i->(sg2.set (k+1) (.map false eh))[j]?=K6[j]?:=λj hj g1 g2=>by rw[z2q (by omega),r3.eq j (by simp only[zHq];have:=A1.l.1;omega) g1 g2,z2q (by omega)]
   have l2:K6.length<=(sg2.set (k+1) (.map false eh)).length:=by have:=r3.le;simp only[zHq]at this ⊢;exact this
   simp only
   by_cases g:S.need K n>S.mx-S.cnt
   ·rw[C8 g]at st2 ⊢;exact⟨_,st2,C4.at_,fr _ l2 f2⟩
   ·rw[A7 g]at st2 ⊢;have CI0:CI S.tick ((S.tick.roots n).filter λr=>S.tick.F9 r != 6&&(S.tick.L6 r).has (K.map (·.1))) S.tick []:=⟨ok.tick,DC.refl _,rfl,rfl,by simp,ypq,by simp⟩;obtain⟨bS,eh3,em3,z1,z2,z3,z4,z5,z6⟩:=B5B (S0:=S.tick) (n0:=n) ok.tick x3 (by rw[A2X ok hn];exact Nat.not_lt.1 g) rfl x2 (S.L6 n) n (ok.L6 hn).tick (λx hx=>by rw[rt];exact(ok.CP hn).2 hx) S.tick [] _ eh [] CI0 C4 A4 Ic.nil y2;refine⟨bS,st2.trans ?_,z2.at_,fr _ (zJq l2 z5) λj hj g1 g2=>?_⟩
    ·rw[z1];rfl
    ·have:=A1.l.1;rw[z6 j (by omega) g1 g2 (by omega) (by omega)];exact f2 j hj g1 g2
end
end Go.Su

/-
 Agreement: what a variable becomes; the loop.
-/
namespace Go.Su
set_option linter.defProp false
section
variable {b i:Nat}{S:E9}{sg:List E5}
theorem Oy(a c:DV):Q3 0 (.J9 [a,c])=some a:=rfl
theorem Oz(a c:DV):Q3 1 (.J9 [a,c])=some c:=rfl
def A04{sg sg':List E5}{k n:Nat}{x:Nat×List DV}(h:V3 sg k n=some x)(e:sg'[k]?=sg[k]?):V3 sg' k n=some x:=by rw[nX e];exact h
def frs(l:List Nat):List DV:=[iN (l.getD 0 0),iN (l.getD 1 0)]
structure Kb(b i n:Nat)(sg sg':List E5):Prop where
 le:sg.length<=sg'.length
 eq:∀j,j<n->j≠b->j≠i->sg'[j]?=sg[j]?
def Kb.refl{b i n:Nat}(sg:List E5):Kb b i n sg sg:=⟨zfq _,λ_ _ _ _=>rfl⟩
def Kb.trans{b i n:Nat}{x y z:List E5}(h:Kb b i n x y)(k:Kb b i n y z):Kb b i n x z:=⟨zJq h.le k.le,λj hj h1 h2=>(k.eq j hj h1 h2).trans (h.eq j hj h1 h2)⟩
def Kp.kb{b i n:Nat}{x y:List E5}(h:Kp b i x y)(hn:n<=x.length):Kb b i n x y:=⟨h.le,λj hj h1 h2=>h.eq j (z6q hj hn) h1 h2⟩
def Kb.set{b i n k:Nat}(x:List E5)(o:E5)(h:n<=k):Kb b i n x (x.set k o):=⟨by simp,λj hj _ _=>z2q (by omega)⟩
def Kb.kp{b i:Nat}{x y:List E5}(h:Kb b i x.length x y):Kp b i x y:=⟨h.le,h.eq⟩
def Kb.app{b i n:Nat}(x L:List E5)(h:n<=x.length):Kb b i n x (x++L):=(Kp.app x L).kb h
def B4S{out:List Nat}{x j:Nat}(h:out.length=j)(hj:j<2):KV 1 0 (iN 0) [(iN x,.val)]=some (iN x)/\(frs out)[j]?=some (iN 0)/\(frs out).set j (iN x)=frs (out++[x]):=by
 subst h
 match out,hj with
 |[],_=>exact⟨rfl,rfl,rfl⟩
 |[a],_=>exact⟨rfl,rfl,rfl⟩
def A7j{v w A8 kv n0 k:Nat}(B6u:A8<2 ^ 31)(hk:k<=2)(hn:n0<=kv)(hb:kv≠b)(hi:kv≠i):∀(q j:Nat)(out:List Nat)(S:E9)(sg:List E5),j+q=k->out.length=j->Y6 b i S sg->S.Ok->v<S.l.length->S.F9 (S.root v)=6->S.X8 (S.root v)=A8->V3 sg kv 1=some (1,frs out)->
 ∃sg',Y6 b i (E9.fresh A8 q S).1 sg'/\Kb b i n0 sg sg' /\(((E9.fresh A8 q S).2.2≠0->Dl C9 b (iN v) (iN w) kv 1 2 (iN k) (iN j) sg=some ([iI (-1),iN (E9.fresh A8 q S).2.2],sg')) /\((E9.fresh A8 q S).2.2=0->Dl C9 b (iN v) (iN w) kv 1 2 (iN k) (iN j) sg=Dl C9 b (iN v) (iN w) kv 1 2 (iN k) (iN k) sg'/\V3 sg' kv 1=some (1,frs (out++(E9.fresh A8 q S).2.1)))):=by
 intro q;induction q with
 |zero=>intro j out S sg hj ho h ok hv h6 hl A1M;exact⟨sg,h,Kb.refl _,λg=>absurd rfl g,λ_=>⟨by rw[show j=k by omega],by simpa[E9.fresh]using A1M⟩⟩
 |succ q ih=>
   intro j out S sg hj ho h ok hv h6 hl A1M;have P8:j<k:=by omega
   have lk:=bU A1M;obtain⟨K6,e1,a1,k1⟩:=A6U h ok A8;obtain⟨o1,o2,o3,o4,-,-⟩:=Ms ok B6u;have start:=Xk C9 b (iN v) (iN w) kv 1 2 (iN k) (iN j) sg;have B4d:=A04 A1M (k1.eq kv lk hb hi);obtain⟨s1,s2,s3⟩:=B4S (x:=(S.var A8).2.1) ho (by omega);simp only[Aq,I6,F3,P8,K3,F6,A3i h ok hv h6,hl,z0q,e1,Oy,Oz,show(DV.int .i64 0)=iN 0 from rfl,Vv]at start;rw[E9.fresh];by_cases he:(S.var A8).2.2=0
   ·rw[C8 he];simp only[he,K3,z5q,z1q,G8,Jd (show j<2 by omega),I6,B4d,s2,beq_self_eq_true,F8,O8,s1,show(DV.int .i64 0)=iN 0 from rfl,addN (show j<2 ^ 62 by omega),s3]at start;have lk1:=bU B4d;obtain⟨ms,vv,am⟩:=a1;have a2:=am.fC hb hi (.P7 1 1 (frs (out++[(S.var A8).2.1])));have rv:=o2.root ok hv;have ka:(S.var A8).1.F9 (S.root v)=S.F9 (S.root v):=(Z0.at_ o2.like (ok.Hg hv)).1;have la:(S.var A8).1.X8 (S.root v)=S.X8 (S.root v):=by
     unfold E9.var;split
     ·rfl
     ·simp only[E9.X8,E9.add]
      rw[zaq (ok.Hg hv)]
    obtain⟨sg2,b1,b2,b3,b4⟩:=ih (j+1) (out++[(S.var A8).2.1]) _ _ (by omega) (by simp[ho]) a2.at o1 (z6q hv o2.le) (by rw[rv,ka,h6]) (by rw[rv,la,hl]) (ZZ lk1 ..);refine⟨sg2,b1,((k1.kb (by omega)).trans (Kb.set _ _ hn)).trans b2,λg=>start.trans (b3 g),λg=>?_⟩;obtain⟨c1,c2⟩:=b4 g;exact⟨start.trans c1,by rw[c2];simp⟩
   ·rw[A7 he];simp only[he,R5,z9q,F6]at start;exact⟨K6,a1,k1.kb (by omega),λ_=>start,λg=>absurd g he⟩
def Y6.lt(h:Y6 b i S sg):b<sg.length/\i<sg.length:=by obtain⟨ms,v,h⟩:=h;exact⟨h.lb,h.lv⟩
def A3k(h:Y6 b i S sg)(ok:S.Ok)(hr:S.J7+5<2 ^ 62){v w:Nat}(hv:v<S.l.length)(hw:w<S.l.length)(rv:S.root v=v)(rw_:S.root w=w)(hne:v≠w)(xE:w≠4)(h6:S.F9 v=6):
 XY b i sg (C9.r QV [(.undef,.ptr b 0),(iN v,.val),(iN w,.val)] sg) [lnk (S.become v w).2.1,iN (S.become v w).2.2] (S.become v w).1:=by
 have start:=(yH b (iN v) (iN w) sg).trans (A0g _ _ _ _ _);have h6':S.F9 (S.root v)=6:=by rw[rv];exact h6
 have k6:D7 .eql (iN (S.F9 w)) (iI 6)=some (.bool (decide (S.F9 w=6))):=Nw _ 6;simp only[Sy h ok hw,rw_,I6,z0q,k6,Q4,I9]at start;unfold E9.become;split
 ·rename_i g;obtain⟨K6,e1,a1,k1⟩:=A19 h ok (by omega) hv hw;rw[C8 g,e1]at start;exact⟨K6,start,a1,k1⟩
 ·rename_i g;obtain⟨K6,e1,a1,k1⟩:=B2a h ok (by omega) hw;rw[A7 g,e1]at start;simp only[I6,z0q,F3,I9]at start;split
  ·rename_i g4;obtain⟨sg2,e2,a2,k2⟩:=A19 a1 ok.tick (show S.J7+1+2<2 ^ 62 by omega) (show v<S.tick.l.length from hv) (show w<S.tick.l.length from hw);rw[C8 g4,e2]at start;exact⟨sg2,start,a2,k1.trans k2⟩
  ·rename_i g4;obtain⟨sg2,e2,a2,k2⟩:=A3j a1 ok.tick (show S.J7+1+1<2 ^ 62 by omega) (show v<S.tick.l.length from hv) (show w<S.tick.l.length from hw);have rt:S.tick.root v=v:=by have:S.tick.root v=S.root v:=(ok.L6 hv).tick.Hl;rw[this,rv]
   have rr:S.tick.roots w=S.roots w:=by unfold E9.roots;rw[(ok.L6 hw).tick.eq]
   rw[A7 g4,e2,rt,rr]at start;simp only[I6,z0q,F3,I9]at start;split
   ·rename_i gi;rw[C8 gi]at start;exact⟨sg2,start,a2,k1.trans k2⟩
   ·rename_i gi;rw[A7 gi]at start;have PN:=ok.tick.tick;have a3:=a2.app [.P7 1 1 [iI 0,iI 0]];have w2:S.tick.tick.root w=w:=by have:S.tick.tick.root w=S.root w:=(ok.L6 hw).tick.tick.Hl;rw[this,rw_]
    have v2:S.tick.tick.root v=v:=by have:S.tick.tick.root v=S.root v:=(ok.L6 hv).tick.tick.Hl;rw[this,rv]
    have kq:=nu a3 PN (show w<S.tick.tick.l.length from hw);rw[w2]at kq;have kk:S.tick.tick.I5 w=S.I5 w:=rfl;rw[kk]at kq;simp only[kq,I6,z0q,Sv]at start;have l2:=a2.lt;have KF:(S.I5 w).length<=2:=by rw[ok.YP hw];exact Zz _
    have A1M:V3 (sg2++[E5.P7 1 1 [iI 0,iI 0]]++[E5.arr 1 []]) sg2.length 1=some (1,frs []):=by simp[V3];rfl
    obtain⟨bS,b1,b2,b3,b4⟩:=A7j (b:=b) (i:=i) (v:=v) (w:=w) (A8:=S.X8 v) (kv:=sg2.length) (n0:=sg2.length) (k:=(S.I5 w).length) (ok.A8 hv) KF (zfq _) (by omega) (by omega) (S.I5 w).length 0 [] S.tick.tick _ (by omega) rfl (a3.app _) PN hv (by rw[v2];exact h6) (by rw[v2];rfl) A1M;have kz:Kp b i sg bS:=by refine(k1.trans k2).trans (Kb.kp ?_);exact((Kb.app sg2 _ (zfq _)).trans (Kb.app _ _ (by simp))).trans b2
    have start:_=Dl C9 b (iN v) (iN w) sg2.length 1 2 (iN (S.I5 w).length) (iN 0) (sg2++[E5.P7 1 1 [iI 0,iI 0]]++[E5.arr 1 []]):=start;obtain⟨f1,f2,f3,f4,f5,f6⟩:=ET (ok.A8 hv) (S.I5 w).length _ PN;simp only;generalize hq:E9.fresh (S.X8 v) (S.I5 w).length S.tick.tick=q at f1 f2 f3 f4 f5 f6 b1 b2 b3 b4 ⊢;split
    ·rename_i ge;exact⟨bS,start.trans (b3 ge),b1,kz⟩
    ·rename_i ge;have g0:q.2.2=0:=Classical.not_not.1 ge;obtain⟨c1,c2⟩:=b4 g0;rw[zxq]at c2;have e7:=Xk C9 b (iN v) (iN w) sg2.length 1 2 (iN (S.I5 w).length) (iN (S.I5 w).length) bS;have hwq:w<q.1.l.length:=z6q hw (show S.l.length<=q.1.l.length from f2.le);have wq:q.1.root w=w:=by rw[f2.root PN hw,w2]
     have kwq:q.1.F9 w=S.F9 w:=(Z0.at_ f2.like (show w<S.tick.tick.l.length from hw)).1;have z0:(frs q.2.1)[0]?=some (iN (q.2.1.getD 0 0)):=rfl;have z1:(frs q.2.1)[1]?=some (iN (q.2.1.getD 1 0)):=rfl;have ar0:AC 0 2 (iN 0)=some 0:=rfl;have ar1:AC 0 2 (iI 1)=some 1:=rfl;have ql:=f6 g0;have kw:=ok.knd hw;have kn:=ok.YP hw;have R6:4∈S.roots w:=Classical.not_not.1 g4;have Vr:S.F9 w=7\/S.F9 w=8\/S.F9 w=9:=by
      by_cases A4n:S.F9 w<=5
      ·exfalso;have h0:(S.I5 w).length=0:=by rw[kn];unfold Nu;rw[A7 (by omega),A7 (by omega)]
       obtain⟨d,d1,-,d3,d4,-⟩:=(ok.L6 hw).nd;have hr:(S.L6 w).r=w:=rw_;rw[hr]at d1;have hk:(S.L6 w).D6=[]:=by
        have:d.D6.length=0:=by rw[<- Du d1];exact h0
        exact zMq.1 (by omega)
       rcases NT.Au.1 ((ok.CP hw).1 R6)with e | ⟨u,hu,-⟩
       ·exact absurd (show w=4 by rw[<- hr];exact e.symm) xE
       ·rw[hk]at hu;cases hu
      ·omega
     have p0:q.2.1.getD 0 0<q.1.l.length:=by
      have:0<q.2.1.length:=by rw[ql,kn];unfold Nu;split<;>(try split)<;>omega
      rw[ziq,zeq this];exact f5 _ (z3q this)
     have p1:S.F9 w≠8->q.2.1.getD 1 0<q.1.l.length:=by
      intro h8;have:1<q.2.1.length:=by rw[ql,kn];unfold Nu;rw[A7 h8,C8 (by omega)];omega
      rw[ziq,zeq this];exact f5 _ (z3q this)
     obtain⟨sg4,x1,x2,x3⟩:=A2a b1 f1 Vr p0 p1;have oe:∀{β : Type}(y:Option β),Mf True y=y:=λy=>by unfold Mf;rw[C8 trivial]
     simp only[Aq,zrq,R5,I6,F3,z1q,G8,Sy b1 f1 hwq,wq,kwq,z0q,ar0,c2,z0,beq_self_eq_true,F8,Bd,oe,ar1,z1,x1,Oy,Oz,show(DV.int .i64 0)=iN 0 from rfl,Vv]at e7;have uS:=start.trans (c1.trans e7);obtain⟨m1,m2,m3,m4,m5,m6⟩:=GK f1 Vr p0 p1;generalize q.1.make (S.F9 w) (q.2.1.getD 0 0) (q.2.1.getD 1 0)=z at m1 m2 m3 m4 m5 m6 x1 x2 x3 e7 uS ⊢;split
     ·rename_i gz;simp only[gz,R5,z9q,F6]at uS;exact⟨sg4,uS,x2,kz.trans x3⟩
     ·rename_i gz;have z00:z.2.2=0:=Classical.not_not.1 gz;have vz:v<z.1.l.length:=z6q hv (zJq f2.le m2.le);have rz:z.1.J7=S.J7+2:=by rw[m3,f3];rfl
      obtain⟨sg5,y1,y2,y3⟩:=A19 x2 m1 (by omega) vz m4;simp only[z00,K3,z5q,z1q,G8,y1,I6,z0q]at uS;exact⟨sg5,uS,y2,(kz.trans x3).trans y3⟩
end
end Go.Su

/-
 Agreement: the loop.
-/
namespace Go.Su
set_option linter.defProp false
section
variable {b i tv:Nat}{S:E9}{sg:List E5}
def pe(p:Nat×Nat):DV:=.agg [iN p.1,iN p.2]
structure MI(tv Q7:Nat)(sg:List E5)(l:List (Nat×Nat)):Prop where
 P7:∃ds,V3 sg tv Q7=some (2,ds)/\ds.take l.length=l.reverse.map pe/\l.length<=ds.length
variable {Q7:Nat}{l:List (Nat×Nat)}
def MI.keep{sg':List E5}(h:MI tv Q7 sg l)(e:sg'[tv]?=sg[tv]?):MI tv Q7 sg' l:=by obtain⟨ds,a,c,d⟩:=h;exact⟨ds,A04 a e,c,d⟩
def MI.lt(h:MI tv Q7 sg l):tv<sg.length:=by obtain⟨ds,a,-⟩:=h;exact bU a
def MI.pop{p:Nat×Nat}(h:MI tv Q7 sg (p::l)):MI tv Q7 sg l/\∃ds,V3 sg tv Q7=some (2,ds)/\ds[l.length]?=some (pe p):=by
 obtain⟨ds,a,c,d⟩:=h;simp only[zhq,List.reverse_cons,ycq,zsq,zuq]at c d;refine⟨⟨ds,a,?_,by omega⟩,ds,a,?_⟩
 ·have:(ds.take (l.length+1)).take l.length=l.reverse.map pe:=by rw[c,List.take_left' (by simp)]
  rwa [List.take_take,Nat.min_eq_left (by omega)]at this
 ·have:(ds.take (l.length+1))[l.length]?=some (pe p):=by rw[c,zmq (by simp)];simp
  rwa [List.getElem?_take_of_lt (by omega)]at this
def MI.push{p:Nat×Nat}(h:MI tv Q7 sg l):∃ds,V3 sg tv Q7=some (2,ds)/\l.length<=ds.length/\(ds.take l.length).length=l.length/\MI tv (Q7+1) (sg.set tv (.P7 (Q7+1) 2 (ds.take l.length++[pe p]))) (p::l):=by have hl:=h.lt;obtain⟨ds,a,c,d⟩:=h;refine⟨ds,a,d,by simp[d],⟨_,ZZ hl ..,?_,by simp[d]⟩⟩;rw[zDq (by simp[d]),c];simp
variable {rest:List (Nat×Nat)}
def B1Q(hr:rest.length<=70001)(hb:tv≠b)(hi:tv≠i)(ks js:List Nat)(hl:ks.length=js.length)(h2:ks.length<=2):∀(j Q7:Nat)(sg:List E5),j<=ks.length->Y6 b i S sg->MI tv Q7 sg ((ks.drop j).zip (js.drop j)++rest)->
 ∃sg' ver',Lv C9 b (iN 0) (iN 0) tv Q7 ((ks.drop j).zip (js.drop j)++rest).length (.list 1 (ks.map iN)) (.list 1 (js.map iN)) (iI ((j:Int)-1)) sg=V4 C9 b (iN 0) (iN 0) tv ver' (ks.zip js++rest).length sg'/\Y6 b i S sg'/\MI tv ver' sg' (ks.zip js++rest)/\Kb b i tv sg sg':=by
 intro j;induction j with
 |zero=>intro Q7 sg hj h T;rw[zcq,zcq]at T ⊢;refine⟨sg,Q7,?_,h,T,Kb.refl _⟩;rw[Xj];rfl
 |succ j ih=>
   intro Q7 sg hj h T;have hj1:j<ks.length:=by omega
   have FE:j<js.length:=by omega
   obtain⟨ds,d1,d2,d3,T2⟩:=T.push (p:=(ks[j],js[j]));have hz:(ks[j],js[j])::((ks.drop (j+1)).zip (js.drop (j+1))++rest)=(ks.drop j).zip (js.drop j)++rest:=by rw[z4q hj1,z4q FE];rfl
   have hn:((ks.drop (j+1)).zip (js.drop (j+1))++rest).length<=70004:=by rw[zlq,List.length_zip,yiq];omega
   rw[hz]at T2;obtain⟨ms,v,a⟩:=h;obtain⟨sg',ver',x1,x2,x3,x4⟩:=ih (Q7+1) _ (by omega) (a.fC hb hi (.P7 (Q7+1) 2 (ds.take ((ks.drop (j+1)).zip (js.drop (j+1))++rest).length++[pe (ks[j],js[j])]))).at T2;refine⟨sg',ver',?_,x2,x3,(Kb.set sg _ (zfq _)).trans x4⟩;rw[Xj];have e1:(DV.int .i64 (((j+1:Nat):Int)-1))=iN j:=by simp only[iN];congr 1;omega
   have e2:D7 .sub (iN j) (iI 1)=some (iI ((j:Int)-1)):=by simp only[iN];rw[Je,GX (by omega) (by omega)]
   have ap:Jy 2 (.list 2 (ds.take ((ks.drop (j+1)).zip (js.drop (j+1))++rest).length)) (.list 2 [pe (ks[j],js[j])])=some (ds.take ((ks.drop (j+1)).zip (js.drop (j+1))++rest).length,[pe (ks[j],js[j])]):=by simp only[Jy,and_self,true_and,d3,zhq,zdq];rw[C8 ⟨by unfold R9;omega,by omega⟩]
   have ep:DV.agg [iN ks[j],iN js[j]]=pe (ks[j],js[j]):=rfl;simp only[e1,A9y,I6,F3,F6,IB hj1,IB FE,Bd,O8,F8,d1,beq_self_eq_true,zjq,d2,K3,ep,ap,d3,zhq,zdq,zKq,e2];have tV:((ks.drop (j+1)).zip (js.drop (j+1))++rest).length+1=((ks.drop j).zip (js.drop j)++rest).length:=by rw[<- hz];rfl
   rw[tV];exact x1
def B2w(hr:rest.length<=70001)(hb:tv≠b)(hi:tv≠i)(h:Y6 b i S sg)(ok:S.Ok){x y:Nat}(hx:x<S.l.length)(hy:y<S.l.length)(hk:S.F9 (S.root x)=S.F9 (S.root y))(T:MI tv Q7 sg rest):
 ∃sg' ver',F_ C9 b (iN 0) (iN 0) tv Q7 rest.length (iN x) (iN y) sg=V4 C9 b (iN 0) (iN 0) tv ver' ((S.I5 (S.root x)).zip (S.I5 (S.root y))++rest).length sg'/\Y6 b i S sg'/\MI tv ver' sg' ((S.I5 (S.root x)).zip (S.I5 (S.root y))++rest)/\Kb b i tv sg sg':=by
 have k1:=nu h ok hx;have h1:=h.app [.arr 1 []];have k2:=nu h1 ok hy;have h2:=h1.app [.arr 1 []];have lx:=ok.YP (ok.Hg hx);have ly:=ok.YP (ok.Hg hy);have l2:(S.I5 (S.root x)).length<=2:=by rw[lx];exact Zz _
 have tl:=T.lt;have T2:MI tv Q7 (sg++[.arr 1 []]++[.arr 1 []]) rest:=T.keep (by rw[zaq (by simp;omega),zaq tl]);obtain⟨sg',ver',x1,x2,x3,x4⟩:=B1Q (S:=S) (rest:=rest) hr hb hi (S.I5 (S.root x)) (S.I5 (S.root y)) (by rw[lx,ly,hk]) l2 (S.I5 (S.root x)).length Q7 _ (zfq _) h2 (by rw[yjq];simpa using T2);rw[yjq]at x1;simp only[List.zip_nil_left,zxq]at x1;refine⟨sg',ver',?_,x2,x3,((Kb.app sg [.arr 1 []] (by omega)).trans (Kb.app (sg++[.arr 1 []]) [.arr 1 []] (by simp;omega))).trans x4⟩;rw[vU];have e2:D7 .sub (iN (S.I5 (S.root x)).length) (iI 1)=some (iI (((S.I5 (S.root x)).length:Int)-1)):=by simp only[iN];rw[Je,GX (by omega) (by omega)]
 simp only[k1,k2,I6,z0q,Sv,e2];exact x1
def A84{F:E9}{H:Nat}(okF:F.Ok)(hF:F.J7+10<2 ^ 62)(hH:H<=70000)(hb:tv≠b)(hi:tv≠i):∀(f:Nat)(S:E9)(todo:List (Nat×Nat))(sg:List E5)(Q7:Nat)(q:E9×Nat×Nat×Nat),E9.O9 f S todo=some q->q.1=F->S.Ok->(∀p∈todo,p.1<S.l.length/\p.2<S.l.length)->Low F H todo->Y6 b i S sg->MI tv Q7 sg todo->
 ∃sg',V4 C9 b (iN 0) (iN 0) tv Q7 todo.length sg=some ([iN q.2.1,iN q.2.2.1,iN q.2.2.2],sg')/\Y6 b i F sg'/\Kb b i tv sg sg':=by
 intro f;induction f with
 |zero=>intro S todo sg Q7 q h;simp[E9.O9]at h
 |succ f ih=>
   intro S todo sg Q7 q hq hqF ok hl B27 h T;obtain⟨okq,eq_,st⟩:=Mt (f+1) S todo q ok hl hq;rw[hqF]at eq_ st;have rle:=eq_.J7;cases todo with
   |nil=>
     simp only[E9.O9,D8]at hq;subst hq;simp only at hqF;subst hqF;refine⟨sg,?_,h,Kb.refl _⟩;rw[Yi];simp only[zdq,A1d,I6,show(DV.int .i64 0)=iN 0 from rfl,xD,zrq,R5,F3,z1q,G8]
     rw[Yh];have z:D7 .gtr (iN 0) (iI 0)=some (.bool false):=rfl;simp only[z,I6,F3,z1q,G8]
     try rfl
   |cons p rest=>
     obtain⟨h1,h2⟩:=hl p (znq ..);have BI:∀q∈rest,q.1<S.l.length/\q.2<S.l.length:=λq hq=>hl q (zpq _ hq);obtain⟨T1,ds,t1,t2⟩:=T.pop;have rl:=B27.2.len;have tl:=T.lt;have x1:=ok.Hg h1;have x2:=ok.Hg h2;have start:=Yi C9 b (iN 0) (iN 0) tv Q7 (rest.length+1) sg;have p0:A9 0 (pe p)=iN p.1:=rfl;have p1:A9 1 (pe p)=iN p.2:=rfl;have bd:bnd (rest.length+1) (some (iN rest.length))=some rest.length:=by simp only[bnd,iN];rw[C8 (by omega)];congr 1
     have k6:∀k,D7 .eql (iN k) (iI 6)=some (.bool (decide (k=6))):=λk=>Nw k 6;have k4:∀k,D7 .eql (iN k) (iI 4)=some (.bool (decide (k=4))):=λk=>Nw k 4;simp only[A1d,I6,xD,show(DV.int .i64 0)=iN 0 from rfl,Nat.succ_pos,K3,F3,F6,B0v (show rest.length<2 ^ 62 by omega),Jd (show rest.length<rest.length+1 by omega),t1,t2,beq_self_eq_true,F8,bd,C8 (show rest.length<=rest.length+1 by omega),p0,p1,Nl h ok h1,Nl h ok h2,z0q,Nw,I9,k4,k6]at start;rw[zhq];have A1R:=B27.2;have go:∀(T':E9)(K6:List E5)(ver':Nat)(l:List (Nat×Nat)),E9.O9 f T' l=some q->T'.Ok->(∀p∈l,p.1<T'.l.length/\p.2<T'.l.length)->Low F H l->Y6 b i T' K6->MI tv ver' K6 l->Kb b i tv sg K6->V4 C9 b (iN 0) (iN 0) tv Q7 (rest.length+1) sg=V4 C9 b (iN 0) (iN 0) tv ver' l.length K6->
      ∃sg',V4 C9 b (iN 0) (iN 0) tv Q7 (rest.length+1) sg=some ([iN q.2.1,iN q.2.2.1,iN q.2.2.2],sg')/\Y6 b i F sg'/\Kb b i tv sg sg':=by
      intro T' K6 ver' l tO okT hlT lowT hT TT K e;obtain⟨sg',y1,y2,y3⟩:=ih T' l K6 ver' q tO hqF okT hlT lowT hT TT;exact⟨sg',e.trans y1,y2,K.trans y3⟩
     have kp:∀{K6:List E5},Kp b i sg K6->MI tv Q7 K6 rest:=λk=>T1.keep (k.eq tv tl hb hi);have goK:∀(T':E9)(K6:List E5)(x y:Nat),E9.O9 f T' ((T'.I5 (T'.root x)).zip (T'.I5 (T'.root y))++rest)=some q->T'.Ok->Y4 S T'->BH T' F->Y6 b i T' K6->Kp b i sg K6->x<T'.l.length->y<T'.l.length->T'.F9 (T'.root x)=T'.F9 (T'.root y)->T'.F9 (T'.root x)≠6->T'.root p.1=T'.root x->V4 C9 b (iN 0) (iN 0) tv Q7 (rest.length+1) sg=F_ C9 b (iN 0) (iN 0) tv Q7 rest.length (iN x) (iN y) K6->
      ∃sg',V4 C9 b (iN 0) (iN 0) tv Q7 (rest.length+1) sg=some ([iN q.2.1,iN q.2.2.1,iN q.2.2.2],sg')/\Y6 b i F sg'/\Kb b i tv sg sg':=by
      intro T' K6 x y tO okT ex sF hT k hx hy hk h6 hp e;obtain⟨sg2,ver',z1,z2,z3,z4⟩:=B2w (rest:=rest) (by omega) hb hi hT okT hx hy hk (kp k);have hpT:=z6q h1 ex.le;have rx:F.root x=T'.root x:=sF.root x hx h6;have kx:F.I5 (F.root x)=T'.I5 (T'.root x):=by rw[rx];exact(sF.at_ _ (okT.Hg hx)).2
      have xF:=z6q hx sF.le;have pF:=z6q hpT sF.le;have hh:F.L6 x=F.L6 p.1:=by
       have e1:F.L6 (F.root x)=F.L6 x:=(okF.L6 xF).self.eq;have e2:F.L6 (F.root p.1)=F.L6 p.1:=(okF.L6 pF).self.eq;have e3:F.root p.1=F.root x:=by rw[<- sF.same p.1 hpT,hp,sF.same x hx]
       rw[<- e1,<- e3,e2]
      have lz:=Low.zip okF xF A1R (by rw[hh];exact B27.1) (T'.I5 (T'.root y)) (by rw[kx,okT.YP (okT.Hg hx)];exact Zz _);rw[kx]at lz;refine go T' sg2 ver' _ tO okT (λw hw=>?_) lz z2 z3 ((k.kb (by omega)).trans z4) (e.trans z1);rcases zqq.1 hw with hw | hw
      ·exact⟨okT.NS hx (y1q hw).1,okT.NS hy (y1q hw).2⟩
      ·exact⟨z6q (BI w hw).1 ex.le,z6q (BI w hw).2 ex.le⟩
     have fin:∀(K6:List E5),Y6 b i q.1 K6->Kp b i sg K6->V4 C9 b (iN 0) (iN 0) tv Q7 (rest.length+1) sg=some ([iN q.2.1,iN q.2.2.1,iN q.2.2.2],K6)->∃sg',V4 C9 b (iN 0) (iN 0) tv Q7 (rest.length+1) sg=some ([iN q.2.1,iN q.2.2.1,iN q.2.2.2],sg')/\Y6 b i F sg'/\Kb b i tv sg sg':=by intro K6 a k e;exact⟨K6,e,by rw[<- hqF];exact a,k.kb (by omega)⟩
     have rt2:∀{T':E9},Y4 S T'->∀w∈rest,w.1<T'.l.length/\w.2<T'.l.length:=λe w hw=>⟨z6q (BI w hw).1 e.le,z6q (BI w hw).2 e.le⟩;have stF:∀{T':E9}{l:List (Nat×Nat)},E9.O9 f T' l=some q->T'.Ok->(∀p∈l,p.1<T'.l.length/\p.2<T'.l.length)->BH T' F:=λa c d=>by
      have:=(Mt f _ _ q c d a).2.2
      rwa [hqF]at this
     have B4g:∀(T':E9)(x y:Nat),T'.Ok->Y4 S T'->x<T'.l.length->y<T'.l.length->∀w∈(T'.I5 (T'.root x)).zip (T'.I5 (T'.root y))++rest,w.1<T'.l.length/\w.2<T'.l.length:=by
      intro T' x y okT e hx hy w hw;rcases zqq.1 hw with hw | hw
      ·exact⟨okT.NS hx (y1q hw).1,okT.NS hy (y1q hw).2⟩
      ·exact rt2 e w hw
     rw[Y7]at hq;by_cases c1:S.root p.1=S.root p.2
     ·rw[C8 c1]at hq start;exact go S sg Q7 rest hq ok BI A1R h T1 (Kb.refl _) start
     rw[A7 c1]at hq start;by_cases c2:S.root p.1=4
     ·rw[C8 c2]at hq start;obtain⟨K6,e1,a1,k1⟩:=A6T (A8:=0) h ok (by omega) x2;rw[e1]at start;exact go _ K6 Q7 rest hq (ok.lower _ _) (rt2 (Y4.lower S _ _)) A1R a1 (kp k1) (k1.kb (by omega)) start
     rw[A7 c2]at hq start;by_cases c3:S.root p.2=4
     ·rw[C8 c3]at hq start;obtain⟨K6,e1,a1,k1⟩:=A6T (A8:=0) h ok (by omega) x1;rw[e1]at start;exact go _ K6 Q7 rest hq (ok.lower _ _) (rt2 (Y4.lower S _ _)) A1R a1 (kp k1) (k1.kb (by omega)) start
     rw[A7 c3]at hq start;simp only[Sy h ok x1,ok.rr h1,I6,z0q,k6,F3,I9]at start;by_cases c4:S.F9 (S.root p.1)=6
     ·rw[C8 c4]at hq start;have B:=Gx ok x1 x2 (ok.rr h1) (ok.rr h2) c1 c3 c4;obtain⟨B2,B3⟩:=BH.become ok x1 x2 (ok.rr h1) (ok.rr h2) c1 c3 c4;obtain⟨K6,e1,a1,k1⟩:=A3k h ok (by omega) x1 x2 (ok.rr h1) (ok.rr h2) c1 c3 c4;simp only[e1,I6,Oy,Oz,show(DV.int .i64 0)=iN 0 from rfl,Vv,F3]at start;by_cases e0:(S.become (S.root p.1) (S.root p.2)).2.2=0
      ·rw[A7 (λg=>g e0)]at hq;cases hm:(S.become (S.root p.1) (S.root p.2)).2.1 with
       |none=>rw[hm]at hq;have ln:D7 .lss (lnk none) (iN 0)=some (.bool true):=rfl;simp only[e0,hm,K3,z5q,z1q,G8,ln,I6,F3,F6]at start;exact go _ K6 Q7 rest hq B.ok (rt2 B.ext) A1R a1 (kp k1) (k1.kb (by omega)) start
       |some m=>
         rw[hm]at hq;obtain⟨b1,b2,b3,b4⟩:=B.some m e0 hm;have ln:∀m,D7 .lss (lnk (some m)) (iN 0)=some (.bool false):=λm=>tZ m;simp only[e0,hm,K3,z5q,z1q,G8,ln,I6,F3]at start;have yl:=z6q x2 B.ext.le;refine goK _ K6 m (S.root p.2) hq B.ok B.ext (stF hq B.ok (B4g _ m _ B.ok B.ext b1 yl)) a1 k1 b1 yl b3 ?_ ?_ start
         ·rw[b3,b4];intro h6;unfold E9.become at hm;rw[C8 h6]at hm;cases hm
         ·rw[<- B3 m e0 hm];exact(B2.same _ h1).symm
      ·rw[C8 e0]at hq;simp only[D8]at hq;subst hq;simp only[e0,R5,z9q,F6]at start;exact fin K6 a1 k1 start
     rw[A7 c4]at hq start;simp only[Sy h ok x2,ok.rr h2,I6,z0q,k6,F3,I9]at start;by_cases c5:S.F9 (S.root p.2)=6
     ·rw[C8 c5]at hq start;have B:=Gx ok x2 x1 (ok.rr h2) (ok.rr h1) (Ne.symm c1) c2 c5;obtain⟨B2,B3⟩:=BH.become ok x2 x1 (ok.rr h2) (ok.rr h1) (Ne.symm c1) c2 c5;obtain⟨K6,e1,a1,k1⟩:=A3k h ok (by omega) x2 x1 (ok.rr h2) (ok.rr h1) (Ne.symm c1) c2 c5;simp only[e1,I6,Oy,Oz,show(DV.int .i64 0)=iN 0 from rfl,Vv,F3]at start;by_cases e0:(S.become (S.root p.2) (S.root p.1)).2.2=0
      ·rw[A7 (λg=>g e0)]at hq;cases hm:(S.become (S.root p.2) (S.root p.1)).2.1 with
       |none=>rw[hm]at hq;have ln:D7 .lss (lnk none) (iN 0)=some (.bool true):=rfl;simp only[e0,hm,K3,z5q,z1q,G8,ln,I6,F3,F6]at start;exact go _ K6 Q7 rest hq B.ok (rt2 B.ext) A1R a1 (kp k1) (k1.kb (by omega)) start
       |some m=>rw[hm]at hq;obtain⟨b1,b2,b3,b4⟩:=B.some m e0 hm;have ln:∀m,D7 .lss (lnk (some m)) (iN 0)=some (.bool false):=λm=>tZ m;simp only[e0,hm,K3,z5q,z1q,G8,ln,I6,F3]at start;have xl:=z6q x1 B.ext.le;exact goK _ K6 (S.root p.1) m hq B.ok B.ext (stF hq B.ok (B4g _ _ m B.ok B.ext xl b1)) a1 k1 xl b1 b3.symm (by rw[b4];exact c4) (B2.same _ h1).symm start
      ·rw[C8 e0]at hq;simp only[D8]at hq;subst hq;simp only[e0,R5,z9q,F6]at start;exact fin K6 a1 k1 start
     rw[A7 c5]at hq start;simp only[Sy h ok x1,Sy h ok x2,ok.rr h1,ok.rr h2,I6,z0q,Vv,F3]at start;by_cases c6:S.F9 (S.root p.1)=S.F9 (S.root p.2)
     ·rw[A7 (λg=>g c6)]at hq;simp only[c6,K3,z5q,z1q,G8]at start;have Ux:E9.O9 f S ((S.I5 (S.root (S.root p.1))).zip (S.I5 (S.root (S.root p.2)))++rest)=some q:=by rw[ok.rr h1,ok.rr h2];exact hq
      exact goK S sg (S.root p.1) (S.root p.2) Ux ok (Y4.refl S) st h (Kp.refl _) x1 x2 (by rw[ok.rr h1,ok.rr h2];exact c6) (by rw[ok.rr h1];exact c4) (ok.rr h1).symm start
     ·rw[C8 c6]at hq;simp only[D8]at hq;subst hq;have kd:=ok.knd x1;simp only[c6,R5,z9q,F6]at start;rw[Yh]at start;have:D7 .gtr (iN (S.F9 (S.root p.1))) (iI 0)=some (.bool true):=by exact(xD _ 0).trans (by rw[decide_eq_true (by omega)])
      rw[this]at start;exact fin sg h (Kp.refl _) start
def A6R(h:Y6 b i S sg)(ok:S.Ok){x y:Nat}(hx:x<S.l.length)(hy:y<S.l.length)(hr:(S.agree x y).1.J7+10<2 ^ 62):
 XY b i sg (C9.r SE [(.undef,.ptr b 0),(iN x,.val),(iN y,.val)] sg) [iN (S.agree x y).2.1,iN (S.agree x y).2.2.1,iN (S.agree x y).2.2.2] (S.agree x y).1:=by
 obtain⟨f,hf⟩:=WC ok hx hy;obtain⟨o1,o2,o3⟩:=Zy ok hx hy;have hl:=h.lt;have hs:=h.app [.P7 1 2 [pe (x,y)]];have T:MI sg.length 1 (sg++[.P7 1 2 [pe (x,y)]]) [(x,y)]:=⟨[pe (x,y)],by simp[V3],rfl,by simp⟩;have hh:=o1.high (z6q hx o3.le);have ll:=o1.len;obtain⟨sg',e1,a1,k1⟩:=A84 (tv:=sg.length) (b:=b) (i:=i) (H:=70000) o1 hr (zfq _) (by omega) (by omega) f S [(x,y)] _ 1 (S.agree x y) hf rfl ok (by simp[hx,hy]) ⟨by simp only[zdq];omega,trivial⟩ hs T;refine⟨sg',?_,a1,⟨by have:=k1.le;simp only[zlq]at this;omega,λj hj g1 g2=>(k1.eq j hj g1 g2).trans (zaq hj)⟩⟩
 ·refine(A0r _ _ _ _).trans ?_;rw[A1p];simp only[Nl h ok hx,Nl h ok hy,I6,z0q,tZ,Q4,F3,z1q,G8,O8,F8];exact e1
end
end Go.Su

/-
 Patterns are put into a store.
-/
namespace Go.Su
set_option linter.defProp false
attribute [local simp] F5.BD
def GY.cells(b:GY):List (DV×F4):=[(iI b.lo,.val),(iI b.hi,.val),(iN b.why,.val),(iN b.left,.val),(iN b.right,.val),(.str b.name,.val)]
def GY.D9(b:GY):DV:=.agg [iI b.lo,iI b.hi,iN b.why,iN b.left,iN b.right,.str b.name]
structure Kx(X:List Nat)(sg sg':List E5):Prop where
 le:sg.length<=sg'.length
 eq:∀j,j<sg.length->j∉X->sg'[j]?=sg[j]?
variable {X:List Nat}(sg:List E5)
def Kx.refl:Kx X sg sg:=⟨zfq _,λ_ _ _=>rfl⟩
def Kx.trans{x y z:List E5}(h:Kx X x y)(k:Kx X y z):Kx X x z:=⟨zJq h.le k.le,λj hj hx=>(k.eq j (z6q hj h.le) hx).trans (h.eq j hj hx)⟩
def Kx.more{Y:List Nat}{x y:List E5}(h:Kx X x y)(s:∀j∈X,j∈Y):Kx Y x y:=⟨h.le,λj hj hx=>h.eq j hj λg=>hx (s j g)⟩
def Kp.kx{b i:Nat}{x y:List E5}(h:Kp b i x y):Kx [b,i] x y:=⟨h.le,λj hj hx=>by simp only[zoq,zkq,or_false,not_or]at hx;exact h.eq j hj hx.1 hx.2⟩
def Kx.set1{k:Nat}(o:E5)(h:k∈X):Kx X sg (sg.set k o):=⟨by simp,λj hj hx=>z2q (by intro e;subst e;exact hx h)⟩
def Kx.app(L:List E5):Kx X sg (sg++L):=⟨by simp,λj hj _=>zaq hj⟩
def VJ(b A8 j1 n1 j2 n2:Nat)(P:PS):List (DV×F4):=[(.undef,.ptr b 0),(iN A8,.val),(.list 1 (P.names.map DV.str),.U2 j1 n1 1),(.list 1 (P.nodes.map iN),.U2 j2 n2 1)]++P.bad.cells
structure oO(b i A8 x j1 j2:Nat)(P:PS)(sg:List E5):Prop where
 st:Y6 b i P.s sg
 box:∃n1 n2,H5 sg x=some (VJ b A8 j1 n1 j2 n2 P)/\sg[j1]?=some (.U2 n1 1 P.names.length)/\sg[j2]?=some (.U2 n2 1 P.nodes.length)
structure A4y(b i x j1 j2:Nat):Prop where
 xx:x≠b/\x≠i
 y1:j1≠b/\j1≠i/\j1≠x
 y2:j2≠b/\j2≠i/\j2≠x/\j2≠j1
section
variable {b i A8 x j1 j2:Nat}{P:PS}{sg:List E5}{sg':List E5}
def Y6.mono{S:E9}(h:Y6 b i S sg)(h1:sg'[b]?=sg[b]?)(h2:sg'[i]?=sg[i]?):Y6 b i S sg':=by obtain⟨ms,v,a⟩:=h;exact⟨ms,v,a.mono h1 h2⟩
def oO.kp{S:E9}(h:oO b i A8 x j1 j2 P sg)(A:A4y b i x j1 j2)(k:Kp b i sg sg')(a:Y6 b i S sg'):oO b i A8 x j1 j2 { P with s:=S } sg':=by obtain⟨n1,n2,c1,c2,c3⟩:=h.box;have l1:=CV c1;have l2:=(z7q.1 c2).1;have l3:=(z7q.1 c3).1;exact⟨a,n1,n2,by rw[Jo (k.eq x l1 A.xx.1 A.xx.2)];exact c1,by rw[k.eq j1 l2 A.y1.1 A.y1.2.1];exact c2,by rw[k.eq j2 l3 A.y2.1 A.y2.2.1];exact c3⟩
def A4x(b i A8 x j1 j2:Nat)(sg:List E5)(r:Option (List DV×List E5))(ds:List DV)(P:PS):Prop:=∃sg',r=some (ds,sg')/\oO b i A8 x j1 j2 P sg'/\Kx [b,i,x,j1,j2] sg sg'
def Kp.k5(h:Kp b i sg sg'):Kx [b,i,x,j1,j2] sg sg':=h.kx.more (by intro j hj;simp only[zoq,zkq,or_false]at hj ⊢;omega)
theorem ic(a c d:DV):Q3 0 (.J9 [a,c,d])=some a:=rfl
theorem ig(a c d:DV):Q3 1 (.J9 [a,c,d])=some c:=rfl
theorem iq(a c d:DV):Q3 2 (.J9 [a,c,d])=some d:=rfl
variable (p:F5)
def A6f:DV.agg [A9 0 p.D9,A9 1 p.D9,A9 2 p.D9,A9 3 p.D9,A9 4 p.D9,A9 5 p.D9,A9 6 p.D9]=p.D9:=by simp
def A3m(h:oO b i A8 x j1 j2 P sg)(A:A4y b i x j1 j2)(ok:P.s.Ok)(p:F5){m n:Nat}(hm:m<P.s.l.length)(hn:n<P.s.l.length)(hr:(P.agree p.lo p.hi m n).1.s.J7+10<2 ^ 62):
 A4x b i A8 x j1 j2 sg (C9.r Lp [(.undef,.ptr x 0),(p.D9,.val),(iN m,.val),(iN n,.val)] sg) [iN (P.agree p.lo p.hi m n).2] (P.agree p.lo p.hi m n).1:=by
 obtain⟨n1,n2,c1,c2,c3⟩:=h.box;have cp:X7 (VJ b A8 j1 n1 j2 n2 P) 0=some b:=rfl;obtain⟨K6,e1,a1,k1⟩:=A6R h.st ok hm hn hr;have h1:=h.kp A k1 a1;have start:=(qa x p.D9 (iN m) (iN n) sg).trans (r_ _ _ _ _ _ _);have n0:∀k,D7 .neq (iN k) (iI 0)=some (.bool (!decide (k=0))):=λk=>Vv k 0;have n7:∀k,D7 .neq (iN k) (iI 7)=some (.bool (!decide (k=7))):=λk=>Vv k 7;simp only[LA,F8,c1,I6,cp,e1,ic,ig,iq,n0,n7,Q4,F3,O8]at start;unfold PS.agree;by_cases g:(P.s.agree m n).2.2.2=0
 ·simp only[g,K3,z5q,z1q,G8]at start;refine⟨K6,by rw[start,<- g],?_,k1.k5⟩;rw[A7 (λq=>q.1 g)];exact h1
 ·by_cases g7:(P.s.agree m n).2.2.2=7
  ·simp only[g,g7,K3,z5q,z1q,G8,R5,z9q,F6]at start;refine⟨K6,by rw[start];simp only[g7];rfl,?_,k1.k5⟩;rw[A7 (λq=>q.2 g7)];exact h1
  ·rw[C8 ⟨g,g7⟩];obtain⟨m1,m2,d1,d2,d3⟩:=h1.box;have ln:(VJ b A8 j1 m1 j2 m2 P).length=10:=rfl;have d1':H5 K6 x=some (VJ b A8 j1 m1 j2 m2 P):=d1;simp only[g,g7,R5,z9q,F6,d1',I6,ln]at start;rw[C8 (by omega)]at start;have lx:=CV d1
   let B:GY:=⟨p.lo,p.hi,(P.s.agree m n).2.2.2,(P.s.agree m n).2.1,(P.s.agree m n).2.2.1,Z5⟩
   refine⟨K6.set x (.box (VJ b A8 j1 m1 j2 m2 { P with bad:=B })),by rw[start,F5.FL,F5.DZ];rfl,⟨?_,m1,m2,Bg lx _,?_,?_⟩,(k1.k5).trans (Kx.set1 _ _ (by simp))⟩
   ·exact h1.st.mono (z2q A.xx.1) (z2q A.xx.2)
   ·rw[z2q (Ne.symm A.y1.2.2)];exact d2
   ·rw[z2q (Ne.symm A.y2.2.2.1)];exact d3
def ny(h:oO b i A8 x j1 j2 P sg)(A:A4y b i x j1 j2)(ok:P.s.Ok)(hl:A8<2 ^ 31)(p:F5){n k many:Nat}(hk:k=7/\many=2\/k=8/\many=1)(hn:n<P.s.l.length)(hr:(P.made A8 p.lo p.hi n k many).1.s.J7+10<2 ^ 62):
 A4x b i A8 x j1 j2 sg (C9.r CS [(.undef,.ptr x 0),(p.D9,.val),(iN n,.val),(iN k,.val),(iN many,.val)] sg)
  [.list 1 ((P.made A8 p.lo p.hi n k many).2.1.map iN),iN (P.made A8 p.lo p.hi n k many).2.2.1,iN (P.made A8 p.lo p.hi n k many).2.2.2] (P.made A8 p.lo p.hi n k many).1:=by
 have n0:∀k,D7 .neq (iN k) (iI 0)=some (.bool (!decide (k=0))):=λk=>Vv k 0;have loop:∀(q j:Nat)(out:List Nat)(P:PS)(sg:List E5),j+q=many->out.length=j->oO b i A8 x j1 j2 P sg->P.s.Ok->
  ∃sg',oO b i A8 x j1 j2 { P with s:=(E9.fresh A8 q P.s).1 } sg'/\Kx [b,i,x,j1,j2] sg sg' /\(((E9.fresh A8 q P.s).2.2≠0->Ck C9 x (iN n) (iN k) (iN many) (.list 1 (out.map iN)) (iN many) (iN j) p.D9 sg=some ([.list 1 [],iN 0,iN (E9.fresh A8 q P.s).2.2],sg')) /\((E9.fresh A8 q P.s).2.2=0->Ck C9 x (iN n) (iN k) (iN many) (.list 1 (out.map iN)) (iN many) (iN j) p.D9 sg=Ck C9 x (iN n) (iN k) (iN many) (.list 1 ((out++(E9.fresh A8 q P.s).2.1).map iN)) (iN many) (iN many) p.D9 sg')):=by
  intro q;induction q with
  |zero=>intro j out P sg hj ho h ok;exact⟨sg,h,Kx.refl _,λg=>absurd rfl g,λ_=>by rw[show j=many by omega];simp[E9.fresh]⟩
  |succ q ih=>
    intro j out P sg hj ho h ok;have P8:j<many:=by omega
    obtain⟨n1,n2,c1,c2,c3⟩:=h.box;have cp:X7 (VJ b A8 j1 n1 j2 n2 P) 0=some b:=rfl;have cl:U7 (VJ b A8 j1 n1 j2 n2 P) 1=some (iN A8):=rfl;obtain⟨K6,e1,a1,k1⟩:=A6U h.st ok A8;obtain⟨o1,o2,o3,o4,-,-⟩:=Ms ok hl;have h1:=h.kp A k1 a1;have start:=UV C9 x (iN n) (iN k) (iN many) (.list 1 (out.map iN)) (iN many) (iN j) p.D9 sg;simp only[Aq,I6,F3,P8,K3,F6,c1,cp,cl,e1,Oy,Oz,n0]at start;rw[E9.fresh];by_cases he:(P.s.var A8).2.2=0
    ·rw[C8 he];simp only[he,K3,z5q,z1q,G8,O8,F8,xq (show out.length<2 ^ 31 by omega),I6,addN (show j<2 ^ 62 by omega)]at start;obtain⟨sg2,b1,b2,b3,b4⟩:=ih (j+1) (out++[(P.s.var A8).2.1]) _ K6 (by omega) (by simp[ho]) h1 o1;refine⟨sg2,b1,k1.k5.trans b2,λg=>start.trans (b3 g),λg=>?_⟩;rw[start.trans (b4 g)];simp
    ·rw[A7 he];simp only[he,R5,z9q,F6]at start;exact⟨K6,h1,k1.k5,λ_=>start,λg=>absurd g he⟩
 obtain⟨K6,h1,k1,b3,b4⟩:=loop many 0 [] P sg (by omega) rfl h ok;have st:C9.r CS [(.undef,.ptr x 0),(p.D9,.val),(iN n,.val),(iN k,.val),(iN many,.val)] sg=Ck C9 x (iN n) (iN k) (iN many) (.list 1 ([].map iN)) (iN many) (iN 0) p.D9 sg:=by refine(sO x p.D9 (iN n) (iN k) (iN many) sg).trans ((vT _ _ _ _ _ _ _).trans ?_);rw[LA];rfl
 obtain⟨f1,f2,f3,f4,f5,f6⟩:=ET hl many P.s ok;unfold PS.made at hr ⊢;simp only at hr ⊢;generalize E9.fresh A8 many P.s=q at h1 b3 b4 f1 f2 f3 f4 f5 f6 hr ⊢;by_cases g:q.2.2=0
 ·rw[A7 (λh=>h g)]at hr ⊢;have ql:=f6 g;have p0:∀i,i<many->q.2.1.getD i 0<q.1.l.length:=by intro i hi;rw[ziq,zeq (by omega)];exact f5 _ (z3q (by omega))
  obtain⟨n1,n2,c1,c2,c3⟩:=h1.box;have cp:X7 (VJ b A8 j1 n1 j2 n2 { P with s:=q.1 }) 0=some b:=rfl;have st2:=st.trans (b4 g);rw[zxq,UV]at st2;have ix:∀i,i<many->M9 1 (.list 1 (q.2.1.map iN)) (iN i)=some (iN (q.2.1.getD i 0)):=λi hi=>by rw[IB (show i<q.2.1.length by omega),ziq,zeq (by omega)];rfl
  have mz:0<many:=by omega
  have sm:D7 .sub (iN many) (iI 1)=some (iN (many-1)):=by obtain⟨m',rfl⟩:∃m',many=m'+1:=⟨many-1,by omega⟩;rw[B0v (by omega)];rfl
  have ix0:M9 1 (.list 1 (q.2.1.map iN)) (iI 0)=some (iN (q.2.1.getD 0 0)):=ix 0 mz;obtain⟨sg2,e2,a2,k2⟩:=A2a h1.st f1 (k:=k) (x:=q.2.1.getD 0 0) (y:=q.2.1.getD (many-1) 0) (by omega) (p0 0 mz) (λ_=>p0 (many-1) (by omega));simp only[Aq,zrq,R5,I6,F3,z1q,G8,c1,cp,ix0,Bd,F8,sm,ix (many-1) (by omega),e2,Oy,Oz,n0]at st2;obtain⟨m1,m2,m3,m4,m5,m6⟩:=GK f1 (k:=k) (x:=q.2.1.getD 0 0) (y:=q.2.1.getD (many-1) 0) (by omega) (p0 0 mz) (λ_=>p0 (many-1) (by omega));have h2:=h1.kp A k2 a2;generalize q.1.make k (q.2.1.getD 0 0) (q.2.1.getD (many-1) 0)=z at e2 a2 st2 m1 m2 m3 m4 m5 m6 h2 hr ⊢;by_cases gz:z.2.2=0
  ·rw[A7 (λh=>h gz)]at hr ⊢;simp only[gz,K3,z5q,z1q,G8,F5.pj,F5.BD,F5.ag]at st2;obtain⟨bS,e3,a3,k3⟩:=A3m h2 A m1 p (z6q hn (zJq f2.le m2.le)) m4 hr;refine⟨bS,?_,a3,(k1.trans k2.k5).trans k3⟩;rw[st2,e3];rfl
  ·rw[C8 gz];simp only[gz,R5,z9q,F6]at st2;exact⟨sg2,st2,h2,k1.trans k2.k5⟩
 ·rw[C8 g];exact⟨K6,st.trans (b3 g),h1,k1⟩
def A1I{sg:List E5}{j n:Nat}{ds:List DV}{d:DV}(h:sg[j]?=some (.U2 n 1 ds.length))(hl:ds.length<2 ^ 31):Rw sg j n 1 (.list 1 ds) (.list 1 [d])=some (.list 1 (ds++[d]),sg.set j (.U2 (n+1) 1 (ds.length+1))):=by
 unfold Rw;rw[h];have:Jy 1 (.list 1 ds) (.list 1 [d])=some (ds,[d]):=by simp only[Jy,and_self,true_and,zhq,zdq];rw[C8 ⟨by unfold R9;omega,by omega⟩]
 simp[this,I6]
theorem B5C{k:Int}(h1:3<=k)(h2:k<=6):C9.p fT [iI k]=some (iI (k-2)):=by
 refine(A3Q _).trans ?_;rw[A4W];have:k=3\/k=4\/k=5\/k=6:=by omega
 rcases this with rfl | rfl | rfl | rfl<;>rfl
end
end Go.Su

/-
 Patterns are put into a store: whole ones.
-/
namespace Go.Su
set_option linter.defProp false
def OU(x:PS)(A8:Nat)(lo hi:Int)(n k many:Nat):(x.made A8 lo hi n k many).1.names=x.names/\(x.made A8 lo hi n k many).1.nodes=x.nodes:=by
 unfold PS.made;simp only
 split
 ·exact⟨rfl,rfl⟩
 ·split<;>exact⟨rfl,rfl⟩
mutual
theorem ym(A8:Nat):∀(p:F5)(nd:Nat)(x:PS),(BG A8 p nd x).1.names.length<=x.names.length+p.size/\(BG A8 p nd x).1.nodes.length<=x.nodes.length+p.size
 |.mk k lo hi name n s ks,nd,x=>by
   have hz:=F5.size_eq (.mk k lo hi name n s ks);rw[F5.X0]at hz;rw[BG];split
   ·exact⟨by simp,by simp⟩
   ·split
    ·simp only[zlq,zhq,zdq];omega
    ·split
     ·obtain⟨m1,m2⟩:=OU x A8 lo hi nd 7 2;split
      ·rw[m1,m2];exact⟨by omega,by omega⟩
      ·have:=yh A8 ks (x.made A8 lo hi nd 7 2).2.1 (x.made A8 lo hi nd 7 2).1;rw[m1,m2]at this;omega
     ·split
      ·obtain⟨m1,m2⟩:=OU x A8 lo hi nd 8 1;split
       ·rw[m1,m2];exact⟨by omega,by omega⟩
       ·have:=yh A8 ks ((x.made A8 lo hi nd 8 1).2.1++[(x.made A8 lo hi nd 8 1).2.2.1]) (x.made A8 lo hi nd 8 1).1;rw[m1,m2]at this;omega
      ·unfold PS.agree;simp only;omega
theorem yh(A8:Nat):∀(ps:List F5)(ns:List Nat)(x:PS),(DY A8 ps ns x).1.names.length<=x.names.length+(ps.map F5.size).sum/\(DY A8 ps ns x).1.nodes.length<=x.nodes.length+(ps.map F5.size).sum
 |[],ns,x=>by rw[DY];simp
 |p::ps,ns,x=>by
   have a:=ym A8 p (ns.headD 0) x;have c:=yh A8 ps ns.tail (BG A8 p (ns.headD 0) x).1;rw[DY,zsq,zPq];split
   ·omega
   ·omega
end
section
variable {b i A8 x j1 j2:Nat}
def B4i(l:List F5):O3 (.list 7 (l.map F5.D9))=some (iN l.length):=by simp[iN]
def B4f{l:List F5}{j:Nat}(h:j<l.length):M9 7 (.list 7 (l.map F5.D9)) (iN j)=some l[j].D9:=V5 h
theorem A8z(A8:Nat)(p:F5)(nd:Nat)(x:PS):BG A8 p nd x =
 if p.E8=1 then(x,0)
 else if p.E8=2 then({ x with names:=x.names++[p.name],nodes:=x.nodes++[nd] },0)
 else if p.E8=7 then
  if (x.made A8 p.lo p.hi nd 7 2).2.2.2≠0 then((x.made A8 p.lo p.hi nd 7 2).1,(x.made A8 p.lo p.hi nd 7 2).2.2.2)else DY A8 p.D6 (x.made A8 p.lo p.hi nd 7 2).2.1 (x.made A8 p.lo p.hi nd 7 2).1
 else if p.E8=8\/p.E8=9 then
  if (x.made A8 p.lo p.hi nd 8 1).2.2.2≠0\/p.E8=8 then((x.made A8 p.lo p.hi nd 8 1).1,(x.made A8 p.lo p.hi nd 8 1).2.2.2)else DY A8 p.D6 ((x.made A8 p.lo p.hi nd 8 1).2.1++[(x.made A8 p.lo p.hi nd 8 1).2.2.1]) (x.made A8 p.lo p.hi nd 8 1).1
 else x.agree p.lo p.hi nd (p.E8-3).toNat:=by cases p;rw[BG];rfl
def B7q(A:A4y b i x j1 j2)(hl:A8<2 ^ 31)(p:F5):p.pat=true->p.size<2 ^ 30->∀(nd:Nat)(P:PS)(sg:List E5),oO b i A8 x j1 j2 P sg->P.s.Ok->nd<P.s.l.length->P.names.length+p.size<2 ^ 31->P.nodes.length+p.size<2 ^ 31->(BG A8 p nd P).1.s.J7+10<2 ^ 62->
 A4x b i A8 x j1 j2 sg (C9.r Hw [(.undef,.ptr x 0),(p.D9,.val),(iN nd,.val)] sg) [iN (BG A8 p nd P).2] (BG A8 p nd P).1:=by
 induction p using F5.ind with
 |h p ih=>
   intro hp hz nd P sg h ok hn f1 f2 hr;have pX:=hp;rw[F5.kP,zLq,List.all_eq_true]at pX;obtain⟨Yq,hp2⟩:=pX;obtain⟨KF,Vr⟩:=F5.vH Yq;have Cw:=F5.size_eq p;have start:=(vX x p.D9 (iN nd) sg).trans (yA _ _ _ _ _);have n0:∀k,D7 .neq (iN k) (iI 0)=some (.bool (!decide (k=0))):=λk=>Vv k 0;simp only[LA,F8,F5.CJ,BJ,I6,F3,I9]at start;have key:p.D6.length<=2->∀(q j:Nat)(ns:List Nat)(P:PS)(sg:List E5),j+q=p.D6.length->ns.length=p.D6.length->(∀n∈ns,n<P.s.l.length)->oO b i A8 x j1 j2 P sg->P.s.Ok->P.names.length+((p.D6.drop j).map F5.size).sum<2 ^ 31->P.nodes.length+((p.D6.drop j).map F5.size).sum<2 ^ 31->(DY A8 (p.D6.drop j) (ns.drop j) P).1.s.J7+10<2 ^ 62->
    A4x b i A8 x j1 j2 sg (Jw C9 x (.list 1 (ns.map iN)) (.list 7 (p.D6.map F5.D9)) (iN p.D6.length) (iN j) sg) [iN (DY A8 (p.D6.drop j) (ns.drop j) P).2] (DY A8 (p.D6.drop j) (ns.drop j) P).1:=by
    intro B6r q;induction q with
    |zero=>intro j ns P sg hj jy eD h ok _ _ _;rw[UW,z8q (by omega),DY];simp only[Aq,I6,F3,I9];rw[A7 (by omega)];exact⟨sg,rfl,h,Kx.refl _⟩
    |succ q ihq=>
      intro j ns P sg hj jy eD h ok g1 g2 hr;have P8:j<p.D6.length:=by omega
      have FE:j<ns.length:=by omega
      have hm:=z3q P8;have ps:=F5.FR hm;rw[z4q P8,zsq,zPq]at g1 g2;rw[z4q P8,z4q FE,kN]at hr ⊢;have hnj:=eD _ (z3q FE);have G:=NB hl p.D6[j] ns[j] P ok hnj (hp2 _ hm);have L:=ym A8 p.D6[j] ns[j] P;have start:=UW C9 x (.list 1 (ns.map iN)) (.list 7 (p.D6.map F5.D9)) (iN p.D6.length) (iN j) sg;simp only[Aq,I6,F3,P8,K3,F6,B4f P8,IB FE,Bd,F8,F5.pj,F5.BD,F5.ag]at start;by_cases e0:(BG A8 p.D6[j] ns[j] P).2=0
      ·rw[A7 (λh=>h e0)]at hr ⊢;have GL:=LF hl (p.D6.drop (j+1)) (ns.drop (j+1)) _ G.ok (by simp only[yiq];omega) (λn hn=>z6q (eD n (ydq hn)) G.ext.le) λw hw=>hp2 w (ydq hw);have rr:=GL.ext.J7;obtain⟨K6,e1,a1,k1⟩:=ih _ hm (hp2 _ hm) (by omega) ns[j] P sg h ok hnj (by omega) (by omega) (by omega);obtain⟨sg2,e2,a2,k2⟩:=ihq (j+1) ns _ K6 (by omega) jy (λn hn=>z6q (eD n hn) G.ext.le) a1 G.ok (by omega) (by omega) hr;refine⟨sg2,?_,a2,k1.trans k2⟩;rw[start,e1];simp only[I6,z0q,e0,n0,K3,z5q,F3,z1q,G8,addN (show j<2 ^ 62 by omega)]
       exact e2
      ·rw[C8 e0]at hr ⊢;obtain⟨K6,e1,a1,k1⟩:=ih _ hm (hp2 _ hm) (by omega) ns[j] P sg h ok hnj (by omega) (by omega) hr;refine⟨K6,?_,a1,k1⟩;rw[start,e1];simp only[I6,z0q,n0,e0,R5,z9q,F3,F6]
   have twenty:p.D6.length<=2->∀(ns:List Nat)(P:PS)(sg:List E5),ns.length=p.D6.length->(∀n∈ns,n<P.s.l.length)->oO b i A8 x j1 j2 P sg->P.s.Ok->P.names.length+(p.D6.map F5.size).sum<2 ^ 31->P.nodes.length+(p.D6.map F5.size).sum<2 ^ 31->(DY A8 p.D6 ns P).1.s.J7+10<2 ^ 62->
    A4x b i A8 x j1 j2 sg (Ki C9 x (.list 1 (ns.map iN)) p.D9 sg) [iN (DY A8 p.D6 ns P).2] (DY A8 p.D6 ns P).1:=by
    intro B6r ns P sg g1 g2 g3 g4 g5 g6 g7;obtain⟨K6,e1,a1,k1⟩:=key B6r p.D6.length 0 ns P sg (by omega) g1 g2 g3 g4 (by rw[zcq];exact g5) (by rw[zcq];exact g6) (by rw[zcq,zcq];exact g7);rw[zcq,zcq]at e1 a1;refine⟨K6,?_,a1,k1⟩;rw[qK,F5.nQ,B4i,I6];exact e1
   rw[A8z]at hr ⊢;by_cases c1:p.E8=1
   ·rw[C8 c1]at start ⊢;exact⟨sg,start,h,Kx.refl _⟩
   rw[A7 c1]at start hr ⊢;by_cases c2:p.E8=2
   ·rw[C8 c2]at start ⊢;obtain⟨n1,n2,d1,d2,d3⟩:=h.box;have cg1:Qi (VJ b A8 j1 n1 j2 n2 P) 2 1=some (.list 1 (P.names.map DV.str),j1,n1):=rfl;have cg2:Qi (VJ b A8 j1 n1 j2 n2 P) 3 1=some (.list 1 (P.nodes.map iN),j2,n2):=rfl;have ga1:=A1I (d:=.str p.name) (ds:=P.names.map DV.str) (by rw[zbq];exact d2) (by rw[zbq];omega);have lx:=CV d1;have l1:=(z7q.1 d2).1;have l2:=(z7q.1 d3).1;have x1:(sg.set j1 (E5.U2 (n1+1) 1 (P.names.length+1)))[x]?=sg[x]?:=z2q A.y1.2.2;have ga2:=A1I (sg:=sg.set j1 (.U2 (n1+1) 1 (P.names.length+1))) (j:=j2) (n:=n2) (d:=iN nd) (ds:=P.nodes.map iN) (by rw[zbq,z2q (Ne.symm A.y2.2.2.2)];exact d3) (by rw[zbq];omega);rw[zbq]at ga1 ga2;have oe:∀{β : Type}(y:Option β),Mf True y=y:=λy=>by unfold Mf;rw[C8 trivial]
    have b1:H5 (sg.set j1 (E5.U2 (n1+1) 1 (P.names.length+1))) x=some (VJ b A8 j1 n1 j2 n2 P):=by rw[Jo x1];exact d1
    have b2:H5 ((sg.set j1 (E5.U2 (n1+1) 1 (P.names.length+1))).set j2 (.U2 (n2+1) 1 (P.nodes.length+1))) x=some (VJ b A8 j1 n1 j2 n2 P):=by rw[Cm A.y2.2.2.1];exact b1
    have i2:(VJ b A8 j1 n1 j2 n2 P)[2]?=some (.list 1 (P.names.map DV.str),.U2 j1 n1 1):=rfl
    let cs1:=(VJ b A8 j1 n1 j2 n2 P).set 2 (.list 1 (P.names.map DV.str++[.str p.name]),.U2 j1 (n1+1) 1)
    have b3:H5 (((sg.set j1 (E5.U2 (n1+1) 1 (P.names.length+1))).set j2 (.U2 (n2+1) 1 (P.nodes.length+1))).set x (.box cs1)) x=some cs1:=Bg (by simpa using lx) _;have i3:cs1[3]?=some (.list 1 (P.nodes.map iN),.U2 j2 n2 1):=rfl
    let P':PS:={ P with names:=P.names++[p.name],nodes:=P.nodes++[nd] }
    have e4:cs1.set 3 (.list 1 (P.nodes.map iN++[iN nd]),.U2 j2 (n2+1) 1)=VJ b A8 j1 (n1+1) j2 (n2+1) P':=by simp[cs1,VJ,P']
    have b3':H5 (((sg.set j1 (E5.U2 (n1+1) 1 (P.names.length+1))).set j2 (.U2 (n2+1) 1 (P.nodes.length+1))).set x (.box ((VJ b A8 j1 n1 j2 n2 P).set 2 (.list 1 (P.names.map DV.str++[.str p.name]),.U2 j1 (n1+1) 1)))) x=some cs1:=b3;simp only[d1,I6,cg1,F5.L_,U_,F8,ga1,b1,cg2,x1,oe,O8,ga2,b2,i2,b3',i3,e4]at start;refine⟨_,start,⟨?_,n1+1,n2+1,Bg (by simpa using lx) _,?_,?_⟩,?_⟩
    ·refine h.st.mono ?_ ?_
     ·rw[z2q A.xx.1,z2q A.xx.1,z2q A.y2.1,z2q A.y1.1]
     ·rw[z2q A.xx.2,z2q A.xx.2,z2q A.y2.2.1,z2q A.y1.2.1]
    ·rw[z2q (Ne.symm A.y1.2.2),z2q (Ne.symm A.y1.2.2),z2q A.y2.2.2.2,zEq l1];simp
    ·rw[z2q (Ne.symm A.y2.2.2.1),z2q (Ne.symm A.y2.2.2.1),zEq (by simpa using l2)];simp
    ·exact((Kx.set1 sg _ (by simp)).trans (Kx.set1 _ _ (by simp))).trans ((Kx.set1 _ _ (by simp)).trans (Kx.set1 _ _ (by simp)))
   rw[A7 c2]at start hr ⊢;by_cases c7:p.E8=7
   ·rw[C8 c7]at start hr ⊢;have p_:DV.agg [iI p.E8,A9 1 p.D9,A9 2 p.D9,A9 3 p.D9,A9 4 p.D9,A9 5 p.D9,A9 6 p.D9]=p.D9:=by simp[F5.BD,F5.ag]
    obtain⟨m1,m2,m3,m4⟩:=FK (x:=P) ok hl (lo:=p.lo) (hi:=p.hi) (n:=nd) (k:=7) (many:=2) (.inl ⟨rfl,rfl⟩) hn;obtain⟨mn1,mn2⟩:=OU P A8 p.lo p.hi nd 7 2;by_cases g:(P.made A8 p.lo p.hi nd 7 2).2.2.2=0
    ·rw[A7 (λh=>h g)]at hr ⊢;have kl:=m4 g;have GL:=LF hl p.D6 (P.made A8 p.lo p.hi nd 7 2).2.1 _ m1.ok (by rw[kl,KF (.inl c7)];exact zfq _) m2 hp2;have rr:=GL.ext.J7;obtain⟨K6,e1,a1,k1⟩:=ny h A ok hl p (k:=7) (many:=2) (.inl ⟨rfl,rfl⟩) hn (by omega);have Ie:C9.r CS [(.undef,.ptr x 0),(p.D9,.val),(iN nd,.val),(iI 7,.val),(iI 2,.val)] sg=_:=e1;simp only[F5.BD,F5.ag,p_,Ie,I6,ic,ig,iq,g,n0,K3,z5q,F3,z1q,G8]at start;obtain⟨sg2,e2,a2,k2⟩:=twenty (by rw[KF (.inl c7)];exact zfq _) _ _ K6 (by rw[kl,KF (.inl c7)]) m2 a1 m1.ok (by rw[mn1];omega) (by rw[mn2];omega) hr;exact⟨sg2,start.trans e2,a2,k1.trans k2⟩
    ·rw[C8 g]at hr ⊢;obtain⟨K6,e1,a1,k1⟩:=ny h A ok hl p (k:=7) (many:=2) (.inl ⟨rfl,rfl⟩) hn hr;have Ie:C9.r CS [(.undef,.ptr x 0),(p.D9,.val),(iN nd,.val),(iI 7,.val),(iI 2,.val)] sg=_:=e1;simp only[F5.BD,F5.ag,p_,Ie,I6,ic,ig,iq,n0,g,R5,z9q,F3,F6]at start;exact⟨K6,start,a1,k1⟩
   rw[A7 c7]at start hr ⊢;by_cases c89:p.E8=8\/p.E8=9
   ·have start:C9.r Hw [(.undef,.ptr x 0),(p.D9,.val),(iN nd,.val)] sg=Kh C9 x (iN nd) p.D9 sg:=by
     rw[start];split
     ·rfl
     ·rw[C8 (by omega)]
    rw[C8 c89]at hr ⊢;rw[qJ]at start;obtain⟨m1,m2,m3,m4⟩:=FK (x:=P) ok hl (lo:=p.lo) (hi:=p.hi) (n:=nd) (k:=8) (many:=1) (.inr ⟨rfl,rfl⟩) hn;obtain⟨mn1,mn2⟩:=OU P A8 p.lo p.hi nd 8 1;have p_:=A6f p;by_cases g:(P.made A8 p.lo p.hi nd 8 1).2.2.2≠0\/p.E8=8
    ·rw[C8 g]at hr ⊢;obtain⟨K6,e1,a1,k1⟩:=ny h A ok hl p (k:=8) (many:=1) (.inr ⟨rfl,rfl⟩) hn hr;have Ie:C9.r CS [(.undef,.ptr x 0),(p.D9,.val),(iN nd,.val),(iI 8,.val),(iI 1,.val)] sg=_:=e1;simp only[p_]at start;simp only[Ie,I6,ic,ig,iq,n0,Q4,F5.CJ,BJ,F3,I9]at start;refine⟨K6,start.trans ?_,a1,k1⟩;by_cases g0:(P.made A8 p.lo p.hi nd 8 1).2.2.2=0
     ·have k8:p.E8=8:=by rcases g with g | g;exact absurd g0 g;exact g
      simp[g0,k8]
     ·simp[g0]
    ·rw[A7 g]at hr ⊢;have g0:(P.made A8 p.lo p.hi nd 8 1).2.2.2=0:=Classical.not_not.1 λh=>g (.inl h);have k8:p.E8≠8:=λh=>g (.inr h);have k9:p.E8=9:=by omega
     have kl:=m4 g0;have ml:∀n∈(P.made A8 p.lo p.hi nd 8 1).2.1++[(P.made A8 p.lo p.hi nd 8 1).2.2.1],n<(P.made A8 p.lo p.hi nd 8 1).1.s.l.length:=by
      intro n hn;rcases zqq.1 hn with hn | hn
      ·exact m2 n hn
      ·rw[zgq.1 hn];exact m3
     have GL:=LF hl p.D6 _ _ m1.ok (by rw[zlq,kl,KF (.inr k9)];exact zfq _) ml hp2;have rr:=GL.ext.J7;obtain⟨K6,e1,a1,k1⟩:=ny h A ok hl p (k:=8) (many:=1) (.inr ⟨rfl,rfl⟩) hn (by omega);have Ie:C9.r CS [(.undef,.ptr x 0),(p.D9,.val),(iN nd,.val),(iI 8,.val),(iI 1,.val)] sg=_:=e1;simp only[p_]at start;simp only[Ie,I6,ic,ig,iq,g0,n0,K3,z5q,Q4,z1q,G8,F5.CJ,BJ,F3,k8,R5,O8,F8,xq (show(P.made A8 p.lo p.hi nd 8 1).2.1.length<2 ^ 31 by omega)]at start;obtain⟨sg2,e2,a2,k2⟩:=twenty (by rw[KF (.inr k9)];exact zfq _) _ _ K6 (by rw[zlq,kl,KF (.inr k9)];rfl) ml a1 m1.ok (by rw[mn1];omega) (by rw[mn2];omega) hr;exact⟨sg2,start.trans e2,a2,k1.trans k2⟩
   ·rw[A7 (λh=>c89 (.inl h)),A7 (λh=>c89 (.inr h))]at start;rw[A7 c89]at hr ⊢;have sb:D7 .sub (iI (p.E8-2)) (iI 1)=some (iN (p.E8-3).toNat):=by
     rw[Je,GX (by omega) (by omega)];simp only[iN]
     congr 2;omega
    have f5:=ok.five;obtain⟨K6,e1,a1,k1⟩:=A3m h A ok p (m:=nd) (n:=(p.E8-3).toNat) hn (by omega) hr;have p_:DV.agg [iI p.E8,A9 1 p.D9,A9 2 p.D9,A9 3 p.D9,A9 4 p.D9,A9 5 p.D9,A9 6 p.D9]=p.D9:=by simp[F5.BD,F5.ag]
    simp only[B5C (show 3<=p.E8 by omega) (show p.E8<=6 by omega),I6,sb,F5.BD,F5.ag,p_,e1,z0q]at start;exact⟨K6,start,a1,k1⟩
end
noncomputable def XB(S:E9)(A8:Nat)(p:F5)(v:Nat):PS×Nat:=BG A8 p v ⟨S,[],[],P9⟩
theorem B5w{b i A8 v:Nat}{S:E9}{sg:List E5}(h:Y6 b i S sg)(ok:S.Ok)(hl:A8<2 ^ 31){p:F5}(hp:p.right=true)(Xt:p.thin=true)(hx:p.txt)(hz:p.size<2 ^ 30)(hv:v<S.l.length)(hr:(XB S A8 p v).1.s.J7+10<2 ^ 62):
 XY b i sg (C9.r fQ [(.undef,.ptr b 0),(p.D9,.val),(iN v,.val),(iN A8,.val)] sg)
  (if (XB S A8 p v).2≠0 then[.list 1 [],.list 1 [],(XB S A8 p v).1.bad.D9,iN (XB S A8 p v).2]else[.list 1 ((XB S A8 p v).1.names.map DV.str),.list 1 ((XB S A8 p v).1.nodes.map iN),P9.D9,iN 0]) (XB S A8 p v).1.s:=by
 have hpp:p.pat=true:=by unfold F5.right at hp;rw[zLq]at hp;exact hp.1
 have xJ:=h.lt
 let k:=sg.length
 let P0:PS:=⟨S,[],[],P9⟩
 let K6:=sg++[.box (VJ b A8 (k+1) 1 (k+2) 1 P0),.U2 1 1 0,.U2 1 1 0]
 have A:A4y b i k (k+1) (k+2):=by constructor<;>omega
 have P1:oO b i A8 k (k+1) (k+2) P0 K6:=⟨h.app _,1,1,by simp[K6,k,H5],by simp[K6,k,zmq];rfl,by simp[K6,k,zmq];rfl⟩;obtain⟨sg2,e2,a2,k2⟩:=B7q A hl p hpp hz v P0 K6 P1 ok hv (by simp only[P0,zdq];omega) (by simp only[P0,zdq];omega) hr;have start:=(A3P b p.D9 (iN v) (iN A8) sg).trans (A4V _ _ _ _ _ _);have p_:=A6f p;have gi:Pz (sg++[E5.box ((.undef,(.ptr b 0))::(iN A8,.val)::((.list 1 []),.full)::((.list 1 []),.full)::(zz4 []))]) sg.length [2,3]=some K6:=by
  have b0:∀(c:List (DV×F4))(L:List E5),H5 (sg++E5.box c::L) sg.length=some c:=λc L=>by simp[H5]
  simp only[Pz,b0,I6];simp only[zBq,zAq,ykq,F6];rw[zRq _ _ (zfq _),y9q,y2q,y5q,List.cons_append,zxq,b0,I6];simp only[List.set_cons_succ,y2q,zBq,zAq,ykq,F6];rw[zRq _ _ (zfq _),y9q,y2q];simp[K6,k,VJ,P0,GY.cells,P9,iN];rfl
 simp only[p_]at start;simp only[LA,F8,bY p Xt hx,hp,F6,I6,Dm,K3,z5q,Q4,z1q,G8,Nl h ok hv,z0q,tZ,F3,O8,gi]at start;have e2':C9.r Hw [(.undef,.ptr sg.length 0),(p.D9,.val),(iN v,.val)] K6=_:=e2;rw[e2']at start;obtain⟨m1,m2,d1,d2,d3⟩:=a2.box;have d1':H5 sg2 sg.length=_:=d1;have n0:∀k,D7 .neq (iN k) (iI 0)=some (.bool (!decide (k=0))):=λk=>Vv k 0;have KK:Kp b i sg sg2:=⟨by have:=k2.le;simp only[K6,zlq]at this;omega,λj hj h1 h2=>(k2.eq j (by simp[K6];omega) (by simp;omega)).trans (zaq hj)⟩;have hi:BG A8 p v P0=XB S A8 p v:=rfl;rw[hi]at start d1' a2;simp only[I6,z0q,n0,F3,d1']at start;refine⟨sg2,start.trans ?_,a2.st,KK⟩;by_cases g:(XB S A8 p v).2=0
 ·simp only[g,K3,z5q,z1q,G8,ne_eq,not_true_eq_false]
  rfl
 ·simp only[g,R5,z9q,F6,ne_eq,not_false_eq_true]
  rfl
end Go.Su

/-
 Inference in memory: the small functions.
-/
namespace Go.Su
set_option linter.defProp false
mutual
def DD.D9:DD->DV
 |.mk n ts vs ks=>.agg [iN n,.list 1 (ts.map iN),.list 1 (vs.map iN),.list 4 (DD.A4O ks)]
def DD.A4O:List DD->List DV
 |[]=>[]
 |k::ks=>DD.D9 k::DD.A4O ks
end
theorem A1k:∀ks:List DD,DD.A4O ks=ks.map DD.D9
 |[]=>by simp[DD.A4O]
 |k::ks=>by rw[DD.A4O,A1k ks];rfl
def EN.D9(x:EN):DV:=.agg [.str x.name,iN x.node,.list 1 (x.vars.map iN)]
variable (b:Nat)(w:W)
def qC:List (DV×F4):=(.undef,.ptr b 0)::(w.bad.cells++[(iN w.err,.val)])
structure KE(b i t:Nat)(w:W)(sg:List E5):Prop where
 st:Y6 b i w.s sg
 box:H5 sg t=some (qC b w)
def Xb(m1 m2 m3:F4):List (DV×F4):=[(iN 0,.val),(.list 1 (w.types.map iN),m1),(.list 1 (w.vars.map iN),m2),(.list 4 (w.D6.map DD.D9),m3)]
variable (g:Bool)
def DAt(p j:Nat)(w:W)(sg:List E5):Prop:=∃m1 m2 m3,H5 sg p=some (Xb w m1 m2 m3)/\(if g=true then ∃n,m1=.U2 j n 1/\sg[j]?=some (.U2 n 1 w.types.length)else(∃n,m1=.U2 j n 1)\/m1=.full)/\(m2=.full\/m2=.val)/\(m3=.full\/m3=.own)
structure Fa(b i t p j:Nat):Prop where
 pp:p≠b/\p≠i/\p≠t
 jj:j≠b/\j≠i/\j≠t/\j≠p
structure BZ(g:Bool)(b i t p j:Nat)(w:W)(sg:List E5):Prop where
 t:KE b i t w sg
 d:DAt g p j w sg
def Tt(b i t p j:Nat)(sg:List E5)(r:Option (List DV×List E5))(ds:List DV)(w:W):Prop:=∃sg',r=some (ds,sg')/\BZ g b i t p j w sg'/\Kx [b,i,t,p,j] sg sg'
def zL(b i t p j:Nat)(sg:List E5)(r:Option (List DV×List E5))(ds:List DV)(w:W):Prop:=∃sg',r=some (ds,sg')/\BZ g b i t p j w sg'/\Kx [b,i,t] sg sg'
section
variable {g:Bool}{b i t p j:Nat}{w:W}{sg:List E5}
def KE.ne(h:KE b i t w sg):t≠b/\t≠i:=by
 obtain⟨ms,v,a⟩:=h.st;have h1:=Wn h.box;have h2:=Wn a.box;have h3:=zA a.P7;constructor
 ·intro e;rw[e,h2]at h1;simp only[D8,E5.box.injEq]at h1;have:=congrArg List.length h1;simp[qC,OD,GY.cells]at this
 ·intro e;rw[e,h3]at h1;cases h1
def DAt.lt(h:DAt g p j w sg):p<sg.length:=by obtain⟨m1,m2,m3,a,-⟩:=h;exact CV a
variable {sg':List E5}
def DAt.kx{w':W}(h:DAt g p j w sg)(A:Fa b i t p j)(k:Kx [b,i,t] sg sg')(e1:w'.types=w.types)(e2:w'.vars=w.vars)(e3:w'.D6=w.D6):DAt g p j w' sg':=by
 have hp:sg'[p]?=sg[p]?:=k.eq p h.lt (by simp;exact A.pp);obtain⟨m1,m2,m3,a,c,d⟩:=h;refine⟨m1,m2,m3,?_,?_,d⟩
 ·rw[Jo hp,a];simp only[Xb,e1,e2,e3]
 ·cases g with
  |false=>simpa using c
  |true=>simp only[F6]at c ⊢;obtain⟨n,c1,c2⟩:=c;refine⟨n,c1,?_⟩;rw[k.eq j (z7q.1 c2).1 (by simp;exact⟨A.jj.1,A.jj.2.1,A.jj.2.2.1⟩),e1];exact c2
def EG(k:Kx [b,i,t] sg sg'):Kx [b,i,t,p,j] sg sg':=k.more (by intro x hx;simp only[zoq,zkq,or_false]at hx ⊢;omega)
def Kp.k3(k:Kp b i sg sg'):Kx [b,i,t] sg sg':=k.kx.more (by intro x hx;simp only[zoq,zkq,or_false]at hx ⊢;omega)
def KE.kp{S:E9}(h:KE b i t w sg)(k:Kp b i sg sg')(a:Y6 b i S sg'):KE b i t { w with s:=S } sg' :=⟨a,by rw[Jo (k.eq t (CV h.box) h.ne.1 h.ne.2)];exact h.box⟩
theorem B5L(b:Nat)(w:W):U7 (qC b w) 7=some (iN w.err):=rfl
theorem JZ(b:Nat)(w:W):X7 (qC b w) 0=some b:=rfl
def JJ(h:KE b i t w sg):C9.r U3 [(.undef,.ptr t 0)] sg=some ([.bool (decide (w.err=0))],sg):=by refine(qX _ _).trans ?_;rw[rW];simp only[h.box,I6,B5L,show(DV.int .i64 0)=iN 0 from rfl,Nw]
variable (B:GY)
def B5Y:I7 6 B.D9=true/\A9 0 B.D9=.int .i64 B.lo/\A9 1 B.D9=.int .i64 B.hi/\A9 2 B.D9=iN B.why/\A9 3 B.D9=iN B.left/\A9 4 B.D9=iN B.right/\A9 5 B.D9=.str B.name:=⟨rfl,rfl,rfl,rfl,rfl,rfl,rfl⟩
def bV(h:KE b i t w sg)(e:Nat)(B:GY):∃sg',C9.r R8 [(.undef,.ptr t 0),(iN e,.val),(B.D9,.val)] sg=some ([],sg')/\KE b i t (w.fails e B) sg'/\Kx [t] sg sg':=by
 have start:=(gQ t (iN e) B.D9 sg).trans (jE _ _ _ _ _);have n0:∀k,D7 .neq (iN k) (iI 0)=some (.bool (!decide (k=0))):=λk=>Vv k 0;have n7:∀k,D7 .neq (iN k) (iI 7)=some (.bool (!decide (k=7))):=λk=>Vv k 7;have c7:(qC b w)[7]?=some (iN w.err,.val):=rfl;obtain⟨b0,b1,b2,b3,b4,b5,b6⟩:=B5Y B;simp only[b0,F8,JJ h,I6,z0q,Q4,I9,n0,F3,h.box,O8,c7,n7]at start;have lt:=CV h.box;obtain⟨t1,t2⟩:=h.ne;unfold W.fails;by_cases g1:w.err=0
 ·by_cases g2:e=0
  ·rw[A7 (λh=>h.2 g2)];simp only[g1,g2,F6,K3,z5q,z1q,G8]at start;exact⟨sg,by rw[g2];exact start,h,Kx.refl _⟩
  ·rw[C8 ⟨g1,g2⟩];have s1:(qC b w).set 7 (iN e,.val)=qC b { w with err:=e }:=rfl;rw[C8 g1]at start;simp only[g2,R5,z9q,F6,s1,Bg lt,I6]at start;by_cases g3:e=7
   ·simp only[g3,K3,z5q,z1q,G8]at start;refine⟨_,by rw[g3];exact start,⟨h.st.mono (z2q t1) (z2q t2),?_⟩,Kx.set1 _ _ (by simp)⟩;rw[Bg lt];simp[qC,g3]
   ·have ln:(qC b { w with err:=e }).length=8:=rfl;simp only[g3,R5,z9q,F6,ln]at start;rw[C8 (by omega)]at start;refine⟨_,start,⟨?_,?_⟩,(Kx.set1 _ _ (by simp)).trans (Kx.set1 _ _ (by simp))⟩
    ·exact h.st.mono (by rw[z2q t1,z2q t1]) (by rw[z2q t2,z2q t2])
    ·rw[Bg (by simpa using lt),b1,b2,b3,b4,b5,b6];simp[qC,g3,Et,GY.cells]
 ·rw[A7 (λh=>g1 h.1)];rw[A7 g1]at start;exact⟨sg,start,h,Kx.refl _⟩
theorem TY:P9.D9=DV.agg (uf (LP [])):=rfl
theorem after{S:E9}{K6:List E5}(h:BZ g b i t p j w sg)(A:Fa b i t p j)(a:Y6 b i S K6)(k:Kp b i sg K6)(e:Nat)(B:GY):
 ∃sg2,C9.r R8 [(.undef,.ptr t 0),(iN e,.val),(B.D9,.val)] K6=some ([],sg2)/\BZ g b i t p j (({ w with s:=S }:W).fails e B) sg2/\Kx [b,i,t] sg sg2:=by
 obtain⟨sg2,e2,a2,k2⟩:=bV (h.t.kp k a) e B;have k3:Kx [b,i,t] sg sg2:=k.k3.trans (k2.more (by intro x hx;simp only[zoq,zkq,or_false]at hx ⊢;omega));refine⟨sg2,e2,⟨a2,h.d.kx A k3 ?_ ?_ ?_⟩,k3⟩<;>unfold W.fails<;>split<;>rfl
def Nn(h:BZ g b i t p j w sg)(A:Fa b i t p j)(ok:w.s.Ok)(A8:Nat):zL g b i t p j sg (C9.r Z7 [(.undef,.ptr t 0),(iN A8,.val)] sg) [iN (w.fresh A8).2] (w.fresh A8).1:=by
 have start:=(gT t (iN A8) sg).trans (jF _ _ _ _);obtain⟨K6,e1,a1,k1⟩:=A6U h.t.st ok A8;obtain⟨sg2,e2,a2,k2⟩:=after h A a1 k1 (w.s.var A8).2.2 P9;simp only[JJ h.t,I6,z0q,U1,F3,h.t.box,JZ,e1,Oy,Oz,<- TY,e2]at start;unfold W.fresh;by_cases g1:w.err=0
 ·rw[A7 (λh=>h g1)];simp only[g1,K3,z5q,z1q,G8]at start;exact⟨sg2,start,a2,k2⟩
 ·rw[C8 g1];simp only[g1,R5,z9q,F6]at start;exact⟨sg,start,h,Kx.refl _⟩
def Wp(h:BZ g b i t p j w sg)(A:Fa b i t p j)(ok:w.s.Ok){k x y:Nat}(hk:k=7\/k=8\/k=9)(hx:x<w.s.l.length)(hy:k≠8->y<w.s.l.length):zL g b i t p j sg (C9.r BK [(.undef,.ptr t 0),(iN k,.val),(iN x,.val),(iN y,.val)] sg) [iN (w.made k x y).2] (w.made k x y).1:=by
 have start:=(jc t (iN k) (iN x) (iN y) sg).trans (lV _ _ _ _ _ _);obtain⟨K6,e1,a1,k1⟩:=A2a h.t.st ok hk hx hy;obtain⟨sg2,e2,a2,k2⟩:=after h A a1 k1 (w.s.make k x y).2.2 P9;simp only[JJ h.t,I6,z0q,U1,F3,h.t.box,JZ,e1,Oy,Oz,<- TY,e2]at start;unfold W.made;by_cases g1:w.err=0
 ·rw[A7 (λh=>h g1)];simp only[g1,K3,z5q,z1q,G8]at start;exact⟨sg2,start,a2,k2⟩
 ·rw[C8 g1];simp only[g1,R5,z9q,F6]at start;exact⟨sg,start,h,Kx.refl _⟩
def A2c(h:BZ g b i t p j w sg)(A:Fa b i t p j)(ok:w.s.Ok){y:Ty}(ht:y.rc)(hz:y.size<2 ^ 40)(Xt:y.thin=true):zL g b i t p j sg (C9.r Gv [(.undef,.ptr t 0),(y.D9,.val)] sg) [iN (w.put y).2] (w.put y).1:=by
 have start:=(mM t y.D9 sg).trans (qH _ _ _ _);obtain⟨K6,e1,a1,k1⟩:=B7m h.t.st ok ht hz Xt;obtain⟨sg2,e2,a2,k2⟩:=after h A a1 k1 (w.s.put y).2.2 P9;simp only[BN,F8,Ty.CJ,Ty.FL,Ty.DZ,Ty.BD,Ty.ag,JJ h.t,I6,z0q,U1,F3,h.t.box,JZ,e1,Oy,Oz,<- TY,e2]at start;unfold W.put;by_cases g1:w.err=0
 ·rw[A7 (λh=>h g1)];simp only[g1,K3,z5q,z1q,G8]at start;exact⟨sg2,start,a2,k2⟩
 ·rw[C8 g1];simp only[g1,R5,z9q,F6]at start;exact⟨sg,start,h,Kx.refl _⟩
def DJ(h:BZ g b i t p j w sg)(A:Fa b i t p j)(ok:w.s.Ok){x y:Nat}(hx:x<w.s.l.length)(hy:y<w.s.l.length)(e:Ex)(hr:(w.agree x y e).s.J7+10<2 ^ 62):zL g b i t p j sg (C9.r R7 [(.undef,.ptr t 0),(iN x,.val),(iN y,.val),(e.D9,.val)] sg) [] (w.agree x y e):=by
 have start:=(gP t (iN x) (iN y) e.D9 sg).trans (jD _ _ _ _ _ _);unfold W.agree at hr ⊢;by_cases g1:w.err=0
 ·rw[A7 (λh=>h g1)]at hr ⊢;rw[W9]at hr;obtain⟨K6,e1,a1,k1⟩:=A6R h.t.st ok hx hy hr;obtain⟨sg2,e2,a2,k2⟩:=after h A a1 k1 (w.s.agree x y).2.2.2 ⟨e.lo,e.hi,(w.s.agree x y).2.2.2,(w.s.agree x y).2.1,(w.s.agree x y).2.2.1,Z5⟩;have be:DV.agg [iI e.lo,iI e.hi,iN (w.s.agree x y).2.2.2,iN (w.s.agree x y).2.1,iN (w.s.agree x y).2.2.1,.str ⟨#[]⟩]=(⟨e.lo,e.hi,(w.s.agree x y).2.2.2,(w.s.agree x y).2.1,(w.s.agree x y).2.2.1,Z5⟩:GY).D9:=rfl;simp only[AJ,F8,JJ h.t,I6,z0q,F3,g1,K3,F6,h.t.box,JZ,e1,ic,ig,iq,O8,Ex.FL,Ex.DZ,be,e2]at start;exact⟨sg2,start,a2,k2⟩
 ·rw[C8 g1];simp only[AJ,F8,JJ h.t,I6,z0q,F3,g1,R5,z1q,G8]at start;exact⟨sg,start,h,Kx.refl _⟩
def A8R{q:W×Nat}(h:BZ true b i t p j q.1 sg)(A:Fa b i t p j)(hl:q.1.types.length<2 ^ 30):
 ∃n c,H5 sg p=some c/\Qi c 1 1=some (.list 1 (q.1.types.map iN),j,n)/\Rw sg j n 1 (.list 1 (q.1.types.map iN)) (.list 1 [iN q.2])=some (.list 1 (q.1.types.map iN++[iN q.2]),sg.set j (.U2 (n+1) 1 (q.1.types.length+1))) /\
   H5 (sg.set j (.U2 (n+1) 1 (q.1.types.length+1))) p=some c/\(∃u,c[1]?=some u) /\
   BZ true b i t p j (W.tell q).1 ((sg.set j (.U2 (n+1) 1 (q.1.types.length+1))).set p (.box (c.set 1 (.list 1 (q.1.types.map iN++[iN q.2]),.U2 j (n+1) 1)))):=by
 obtain⟨m1,m2,m3,a,c,d⟩:=h.d;simp only[F6]at c;obtain⟨n,rfl,c2⟩:=c;have lp:=CV a;have lj:=(z7q.1 c2).1;have ga:=A1I (d:=iN q.2) (ds:=q.1.types.map iN) (by rw[zbq];exact c2) (by rw[zbq];omega);rw[zbq]at ga;have ee:(Xb q.1 (.U2 j n 1) m2 m3).set 1 (.list 1 (q.1.types.map iN++[iN q.2]),.U2 j (n+1) 1)=Xb (W.tell q).1 (.U2 j (n+1) 1) m2 m3:=by simp[Xb,W.tell]
 refine⟨n,_,a,rfl,ga,by rw[Cm A.jj.2.2.2];exact a,⟨_,rfl⟩,⟨?_,?_⟩,.U2 j (n+1) 1,m2,m3,by rw[ee];exact Bg (by simpa using lp) _,?_,d⟩
 ·refine h.t.st.mono ?_ ?_
  ·rw[z2q A.pp.1,z2q A.jj.1]
  ·rw[z2q A.pp.2.1,z2q A.jj.2.1]
 ·rw[Cm A.pp.2.2,Cm A.jj.2.2.1];exact h.t.box
 ·simp only[F6]
  have e:(W.tell q).1.types.map iN=q.1.types.map iN++[iN q.2]:=by simp[W.tell]
  refine⟨n+1,rfl,?_⟩;rw[z2q (Ne.symm A.jj.2.2.2),zEq lj];simp[W.tell]
end
end Go.Su

/-
 Inference in memory: parameters, names.
-/
namespace Go.Su
set_option linter.defProp false
def B6K(l:List EN):O3 (.list 3 (l.map EN.D9))=some (iN l.length):=by simp[iN]
variable {l:List EN}
def B8O{j:Nat}(h:j<l.length):M9 3 (.list 3 (l.map EN.D9)) (iN j)=some l[j].D9:=V5 h
def A2g(l k:List EN)(hl:l.length+k.length<2 ^ 31)(sg:List E5):C9.r Cz [(.list 3 (l.map EN.D9),.val),(.list 3 (k.map EN.D9),.val)] sg=some ([.list 3 ((l++k).map EN.D9)],sg):=by
 refine(A1z _ _ _).trans ?_;rw[A3y];have s3:Ze 3 (.list 3 (l.map EN.D9)) none (iN l.length) (iN l.length)=some (.list 3 (l.map EN.D9)):=by simp only[Ze,iN,F6,Nv,bnd,zbq,I6];rw[C8 (by omega),I6,C8 (by simp)];simp only[yfq,zcq];rw[zDq (by simp)]
 simp only[B6K,I6,s3];rw[Kn (by simp[R9];omega),I6,ycq]
section
variable {g:Bool}{b i t p j:Nat}{w:W}{sg:List E5}
def A8T{sg':List E5}{n m:Nat}{c:List (DV×F4)}:Kx [b,i,t,p,j] sg ((sg.set j (.U2 n 1 m)).set p (.box c)):=(Kx.set1 _ _ (by simp)).trans (Kx.set1 _ _ (by simp))
def zC(h:BZ true b i t p j w sg)(A:Fa b i t p j)(ok:w.s.Ok){y:Ty}(ht:y.E8≠0->y.rc)(hz:y.size<2 ^ 40)(Xt:y.thin=true)(A8:Nat)(hl:w.types.length<2 ^ 30):
 Tt true b i t p j sg (C9.r Ey [(.undef,.ptr t 0),(y.D9,.val),(iN A8,.val),(.undef,.ptr p 0)] sg) [iN (w.Ae y A8).2] (w.Ae y A8).1:=by
 have start:=(gW t y.D9 (iN A8) p sg).trans (jI _ _ _ _ _ _);simp only[BN,F8,Ty.CJ,Ty.FL,Ty.DZ,Ty.BD,Ty.ag,Dm,I6,F3]at start;unfold W.Ae;by_cases k:y.E8=0
 ·rw[A7 (λh=>h k)];obtain⟨K6,e1,a1,k1⟩:=Nn h A ok A8;have tl:(w.fresh A8).1.types.length<2 ^ 30:=by
   have:(w.fresh A8).1.types=w.types:=by
    unfold W.fresh;split
    ·rfl
    ·rw[Rv]
   rw[this];exact hl
  obtain⟨n,c,x1,x2,x3,x4,⟨u,x5⟩,x6⟩:=A8R (q:=w.fresh A8) a1 A tl;simp only[k,K3,z5q,z1q,G8,e1,I6,z0q,x1,x2,O8,F8,x3,x4,x5]at start;exact⟨_,start,x6,(EG k1).trans (A8T (sg':=sg))⟩
 ·rw[C8 k];obtain⟨K6,e1,a1,k1⟩:=A2c h A ok (ht k) hz Xt;simp only[k,R5,z9q,F6,e1,I6,z0q]at start;exact⟨K6,start,a1,EG k1⟩
def A6V(h:BZ g b i t p j w sg)(A:Fa b i t p j)(ok:w.s.Ok)(hr:w.s.J7+1<2 ^ 62){n:Nat}(hn:n<w.s.l.length)(A8:Nat):
 zL g b i t p j sg (C9.r Ig [(.undef,.ptr t 0),(iN n,.val),(iN A8,.val)] sg) [.list 1 ((w.above n A8).2.map iN)] (w.above n A8).1:=by
 have start:=(gN t (iN n) (iN A8) sg).trans (jC _ _ _ _ _);obtain⟨K6,e1,a1,k1⟩:=A8K h.t.st ok hr hn;have T1:=h.t.kp k1 a1;simp only[h.t.box,I6,JZ,e1,z0q,Sv]at start;have hl:=ok.A12 hn;have hvl:(w.s.vars n).length<2 ^ 31:=yeq (zSq ..) hl;have key:∀(q k:Nat)(o:List Nat),k+q=(w.s.vars n).length->o.length<=k->Dc C9 t (iN A8) (.list 1 (o.map iN)) (.list 1 ((w.s.vars n).map iN)) (iN (w.s.vars n).length) (iN k) K6=some ([.list 1 ((o++((w.s.vars n).drop k).filter λv=>decide (A8<w.s.X8 v)).map iN)],K6):=by
  intro q;induction q with
  |zero=>intro k o hk ho;rw[Pj,z8q (by omega)];simp only[Aq,I6,F3,I9];rw[A7 (by omega),ylq,ymq]
  |succ q ih=>
    intro k o hk ho;have FF:k<(w.s.vars n).length:=by omega
    have hv:=ynq.1 (z3q FF);have hx:=ok.NZ hn hv.1;obtain⟨u,hu,hur,-⟩:=U8.sub (w.s.L6 n) n (ok.L6 hn) ((ok.CP hn).1 hv.1);have rr:w.s.root (w.s.vars n)[k]=(w.s.vars n)[k]:=by rw[hu.Hl,hur]
    have h6:w.s.F9 (w.s.vars n)[k]=6:=by simpa using hv.2
    have rt:w.s.tick.root (w.s.vars n)[k]=(w.s.vars n)[k]:=by rw[hu.tick.Hl,hur]
    have lv:=A3i T1.st ok.tick (show(w.s.vars n)[k]<w.s.tick.l.length from hx) (by rw[rt];exact h6);rw[rt]at lv;have ll:w.s.tick.X8 (w.s.vars n)[k]=w.s.X8 (w.s.vars n)[k]:=rfl;rw[Pj,z4q FF,y6q];simp only[Aq,I6,F3,I9,C8 FF,IB FF,Bd,F8,T1.box,JZ,lv,z0q,ll,xD,O8,addN (show k<2 ^ 62 by omega)]
    by_cases hq:A8<w.s.X8 (w.s.vars n)[k]
    ·rw[C8 hq,xq (show o.length<2 ^ 31 by omega),I6,ih (k+1) _ (by omega) (by simp;omega),C8 hq,y5q];rfl
    ·rw[A7 hq,ih (k+1) _ (by omega) (by omega),A7 hq]
 have:=key (w.s.vars n).length 0 [] (by omega) (by simp);simp only[zuq,zxq,zcq]at this;exact⟨K6,start.trans this,⟨T1,h.d.kx A k1.k3 rfl rfl rfl⟩,k1.k3⟩
def en0(x:EN):A9 0 x.D9=.str x.name/\A9 1 x.D9=iN x.node/\A9 2 x.D9=.list 1 (x.vars.map iN):=⟨rfl,rfl,rfl⟩
def xC(w:W)(A8:Nat):(w.fresh A8).1.types=w.types:=by
 unfold W.fresh;split
 ·rfl
 ·rw[Rv]
def B1B{A8 len:Nat}(hl:A8<2 ^ 31)(GH:len<2 ^ 29)(A:Fa b i t p j)(x:DV):∀(q k:Nat)(w:W)(sg:List E5),k+q=len->l6 w->BZ true b i t p j w sg->w.types.length<2 ^ 29+k->
 ∃sg',Cg C9 t (iN A8) p (iN len) (iN k) x sg=Cg C9 t (iN A8) p (iN len) (iN len) x sg'/\BZ true b i t p j (W.many A8 q w) sg'/\Kx [b,i,t,p,j] sg sg':=by
 intro q;induction q with
 |zero=>intro k w sg hk I h ht;exact⟨sg,by rw[show k=len by omega],h,Kx.refl _⟩
 |succ q ih=>
   intro k w sg hk I h ht;have FF:k<len:=by omega
   obtain⟨K6,e1,a1,k1⟩:=Nn h A I.ok A8;obtain⟨G1,G2⟩:=Ab I hl;obtain⟨G3,-⟩:=fH G1 G2;have tl:=xC w A8;obtain⟨n,c,x1,x2,x3,x4,⟨u,x5⟩,x6⟩:=A8R (q:=w.fresh A8) a1 A (by rw[tl];omega);obtain⟨sg2,y1,y2,y3⟩:=ih (k+1) _ _ (by omega) G3.i x6 (by simp only[W.tell,zlq,tl,zhq,zdq];omega);refine⟨sg2,?_,by rw[W.many];exact y2,((EG k1).trans (A8T (sg':=sg))).trans y3⟩;have p_:K6[p]?=sg[p]?:=k1.eq p h.d.lt (by simp;exact A.pp);have b0:H5 sg p=some c:=by rw[<- Jo p_];exact x1
   have oe:∀{β : Type}(y:Option β),Mf (K6[p]?=sg[p]?) y=y:=λy=>by unfold Mf;rw[C8 p_]
   rw[RG];simp only[Aq,I6,F3,FF,K3,F6,b0,x2,e1,oe,z0q,O8,F8,x3,x4,x5,addN (show k<2 ^ 62 by omega)]
   exact y1
def B5G(h:BZ true b i t p j w sg)(A:Fa b i t p j)(I:l6 w){e:Ex}{A8:Nat}(hl:A8<2 ^ 31)(hE:Z6 w.s.l.length l)(hll:l.length<2 ^ 31)(hv:∀x∈l,x.vars.length<2 ^ 29)(ht:w.types=[])(hr:(w.name e A8 l).1.s.J7+10<2 ^ 62):
 Tt true b i t p j sg (C9.r Jt [(.undef,.ptr t 0),(e.D9,.val),(iN A8,.val),(.list 3 (l.map EN.D9),.val),(.undef,.ptr p 0)] sg) [iN (w.name e A8 l).2] (w.name e A8 l).1:=by
 have st:C9.r Jt [(.undef,.ptr t 0),(e.D9,.val),(iN A8,.val),(.list 3 (l.map EN.D9),.val),(.undef,.ptr p 0)] sg=Bj C9 t (iN A8) (.list 3 (l.map EN.D9)) p (iI ((l.length:Int)-1)) e.D9 sg:=by
  refine(jd t e.D9 (iN A8) (.list 3 (l.map EN.D9)) p sg).trans ((lW _ _ _ _ _ _ _).trans ?_);have:D7 .sub (iN l.length) (iI 1)=some (iI ((l.length:Int)-1)):=by simp only[iN];rw[Je,GX (by omega) (by omega)]
  simp only[AJ,F8,B6K,I6,this]
 have find:∀k,k<=l.length->match (l.take k).reverse.find? λx=>decide (x.name=e.name)with
  |none=>Bj C9 t (iN A8) (.list 3 (l.map EN.D9)) p (iI ((k:Int)-1)) e.D9 sg=Bj C9 t (iN A8) (.list 3 (l.map EN.D9)) p (iI (-1)) e.D9 sg
  |some x=>Bj C9 t (iN A8) (.list 3 (l.map EN.D9)) p (iI ((k:Int)-1)) e.D9 sg=(if x.vars.length=0 then some ([iN x.node],sg)else Cg C9 t (iN A8) p (iN x.vars.length) (iN 0) x.D9 sg):=by
  intro k;induction k with
  |zero=>intro _;rfl
  |succ k ih=>
    intro hk;have FF:k<l.length:=by omega
    have ih:=ih (by omega);rw[zNq FF,List.reverse_append,List.reverse_singleton,y8q,List.find?_cons];have e1:((iI (((k+1:Nat):Int)-1)):DV)=iN k:=by simp only[iN];congr 1;omega
    have e2:D7 .sub (iN k) (iI 1)=some (iI ((k:Int)-1)):=by simp only[iN];rw[Je,GX (by omega) (by omega)]
    obtain⟨p0,p1,p2⟩:=en0 l[k];have start:=RF C9 t (iN A8) (.list 3 (l.map EN.D9)) p (iN k) e.D9 sg;have g0:D7 .geq (iN k) (iN 0)=some (.bool true):=A9y k;simp only[A9y,g0,I6,F3,F6,B8O FF,p0,p1,p2,Ex.L_,TF,Sv,show(DV.int .i64 0)=iN 0 from rfl,Nw,I9,e2]at start;by_cases hn:l[k].name=e.name
    ·simp only[hn,K3,z5q,z1q,G8]at start ⊢;rw[e1];exact start
    ·simp only[hn,R5,z9q,F6]at start ⊢;rw[e1,start];exact ih
 have hf:=find l.length (zfq _);rw[yhq]at hf;unfold W.name at hr ⊢;cases hx:l.reverse.find? λx=>decide (x.name=e.name)with
 |none=>rw[hx]at hf;simp only at hf ⊢;have start:=RF C9 t (iN A8) (.list 3 (l.map EN.D9)) p (iI (-1)) e.D9 sg;obtain⟨K6,e1,a1,k1⟩:=bV h.t 6 ⟨e.lo,e.hi,6,0,0,e.name⟩;have be:DV.agg [iI e.lo,iI e.hi,iI 6,iI 0,iI 0,.str e.name]=(⟨e.lo,e.hi,6,0,0,e.name⟩:GY).D9:=rfl;have Ie:C9.r R8 [(.undef,.ptr t 0),(iI 6,.val),((⟨e.lo,e.hi,6,0,0,e.name⟩:GY).D9,.val)] sg=_:=e1;have gm:D7 .geq (iI (-1)) (iI 0)=some (.bool false):=rfl;simp only[gm,I6,F3,z1q,G8,Ex.FL,Ex.DZ,Ex.L_,U_,F8,be,Ie]at start;have k3:Kx [b,i,t] sg K6:=k1.more (by intro x hx;simp only[zoq,zkq,or_false]at hx ⊢;omega);exact⟨K6,st.trans (hf.trans start),⟨a1,h.d.kx A k3 (by unfold W.fails;split<;>rfl) (by unfold W.fails;split<;>rfl) (by unfold W.fails;split<;>rfl)⟩,EG k3⟩
 |some x=>
   rw[hx]at hf hr;simp only at hf hr ⊢;have hxm:x∈l:=by simpa using List.mem_of_find?_eq_some hx
   obtain⟨q1,q2⟩:=hE x hxm;by_cases QD:x.vars=[]
   ·rw[C8 QD]at hr ⊢;rw[C8 (by rw[QD];rfl)]at hf;exact⟨sg,st.trans hf,h,Kx.refl _⟩
   ·rw[A7 QD]at hr ⊢;rw[A7 (λg=>QD (zMq.1 g))]at hf;obtain⟨K6,e1,a1,k1⟩:=B1B hl (hv x hxm) A x.D9 x.vars.length 0 w sg (by omega) I h (by rw[ht];simp);have G:=tu hl x.vars.length I;have mt:=Qo (A8:=A8) x.vars.length w;generalize W.many A8 x.vars.length w=w1 at a1 G mt hr ⊢;rw[ht,zdq,zKq]at mt;have start:=RG C9 t (iN A8) p (iN x.vars.length) (iN x.vars.length) x.D9 K6;obtain⟨p0,p1,p2⟩:=en0 x;obtain⟨m1,m2,m3,d1,d2,d3⟩:=a1.d;have cd:U7 (Xb w1 m1 m2 m3) 1=some (.list 1 (w1.types.map iN)):=by simp only[F6]at d2;obtain⟨n,rfl,-⟩:=d2;rfl
    simp only[Aq,zrq,R5,I6,F3,z1q,G8,JJ a1.t,z0q,U1,a1.t.box,JZ,d1,cd,p1,p2]at start;by_cases g1:w1.err=0
    ·rw[A7 (λh=>h g1)]at hr ⊢;have C:=aC G.i.ok (z6q q1 G.ext.le) (from_:=x.vars) (to:=w1.types) (by omega) G.i.ty;rw[W9]at hr;have rr:=C.2.1.J7;have hr:(w1.s.copy x.node x.vars w1.types).1.J7+10<2 ^ 62:=hr;have hvx:=hv x hxm;obtain⟨sg2,e2,a2,k2⟩:=B5v a1.t.st G.i.ok (by omega) (z6q q1 G.ext.le) (from_:=x.vars) (to:=w1.types) (λf hf=>z6q (q2 f hf) G.ext.le) G.i.ty (by omega) (by omega);obtain⟨bS,e3,a3,k3⟩:=after a1 A a2 k2 (w1.s.copy x.node x.vars w1.types).2.2 P9;simp only[g1,K3,z5q,z1q,G8,e2,I6,Oy,Oz,<- TY,e3]at start;exact⟨bS,st.trans (hf.trans (e1.trans start)),a3,k1.trans (EG k3)⟩
    ·rw[C8 g1];simp only[g1,R5,z9q,F6]at start;exact⟨K6,st.trans (hf.trans (e1.trans start)),a1,k1⟩
end
end Go.Su

/-
 Inference in memory: D6; lists, applications, names that are bound.
-/
namespace Go.Su
set_option linter.defProp false
def EV(l:List EN):Prop:=∀x∈l,x.vars.length<2 ^ 29
def EV.app{l k:List EN}(h:EV l)(g:EV k):EV (l++k):=λx hx=>by
 rcases zqq.1 hx with hx | hx
 ·exact h x hx
 ·exact g x hx
def EV.one{s:ByteArray}{m:Nat}:EV [⟨s,m,[]⟩]:=λx hx=>by rw[zgq.1 hx];simp
def RSp(b i t:Nat)(R:Rec)(e:Ex):Prop:=∀(A8:Nat)(l:List EN)(w:W)(sg:List E5),A8+e.size<2 ^ 30->l.length+2 * e.Y0<2 ^ 30->l6 w->Z6 w.s.l.length l->EV l->KE b i t w sg->(R e A8 l w).1.s.J7+10<2 ^ 62->∃sg',C9.r Bu [(.undef,.ptr t 0),(e.D9,.val),(iN A8,.val),(.list 3 (l.map EN.D9),.val)] sg=some ([iN (R e A8 l w).2.1,(R e A8 l w).2.2.D9],sg')/\KE b i t (R e A8 l w).1 sg'/\Kx [b,i,t] sg sg'
structure PY(b i t:Nat)(R:Rec)(A8 n:Nat)(k:Ex):Prop where
 good:Cn R k
 sp:RSp b i t R k
 sz:A8+k.size<2 ^ 30
 ms:n+2 * k.Y0<2 ^ 30
def PY.le{b i t:Nat}{R:Rec}{A8 lev' n n':Nat}{k:Ex}(h:PY b i t R A8 n k)(h1:lev'<=A8)(h2:n'<=n):PY b i t R lev' n' k:=⟨h.good,h.sp,by have:=h.sz;omega,by have:=h.ms;omega⟩
def DD.O4(d:DD):∃a c e f,d.D9=.agg [a,c,e,f]:=by cases d;rw[DD.D9];exact⟨_,_,_,_,rfl⟩
def uq(d:DD):DV.agg [A9 0 d.D9,A9 1 d.D9,A9 2 d.D9,A9 3 d.D9]=d.D9/\I7 4 d.D9=true:=by obtain⟨a,c,e,f,h⟩:=DD.O4 d;rw[h];exact⟨rfl,rfl⟩
def Uz{e:Ex}{j:Nat}(h:j<e.D6.length):M9 16 (A9 15 e.D9) (iN j)=some (e.kd j).D9:=by rw[Ex.A6h,<- Ex.kF h];exact V5 h
section
variable {b i t p j:Nat}
def FT{g:Bool}{w:W}{sg:List E5}{R:Rec}{e:Ex}{idx A8:Nat}{l:List EN}(A:Fa b i t p j)(h:BZ g b i t p j w sg)(I:l6 w)(hi:idx<e.D6.length)(K:PY b i t R A8 l.length (e.kd idx))(hE:Z6 w.s.l.length l)(hV:EV l)(HV:w.D6.length<2 ^ 30)(hr:(J4 R w (e.kd idx) A8 l).1.s.J7+10<2 ^ 62):
 Tt g b i t p j sg (C9.r O6 [(.undef,.ptr t 0),(e.D9,.val),(iN idx,.val),(iN A8,.val),(.list 3 (l.map EN.D9),.val),(.undef,.ptr p 0)] sg) [iN (J4 R w (e.kd idx) A8 l).2] (J4 R w (e.kd idx) A8 l).1:=by
 have start:=(mJ t e.D9 (iN idx) (iN A8) (.list 3 (l.map EN.D9)) p sg).trans (qF _ _ _ _ _ _ _ _);simp only[AJ,F8,JJ h.t,I6,z0q,U1,F3,Uz hi,N_]at start;unfold J4 at hr ⊢;by_cases g1:w.err=0
 ·rw[A7 (λh=>h g1)]at hr ⊢;obtain⟨K6,e1,a1,k1⟩:=K.sp A8 l w sg K.sz K.ms I hE hV h.t hr;obtain⟨x1,x2⟩:=uq (R (e.kd idx) A8 l w).2.2;simp only[g1,K3,z5q,z1q,G8,e1,I6,Oy,Oz,x1,x2,F8]at start;obtain⟨m1,m2,m3,c1,c2,c3,c4⟩:=h.d;have kp:K6[p]?=sg[p]?:=k1.eq p h.d.lt (by simp;exact A.pp);have d1:H5 K6 p=some (Xb w m1 m2 m3):=by rw[Jo kp];exact c1
  have lp:=CV d1;have co:uo (Xb w m1 m2 m3) 3=some (.list 4 (w.D6.map DD.D9)):=by rcases c4 with rfl | rfl<;>rfl
  generalize R (e.kd idx) A8 l w=q at e1 a1 x1 x2 start ⊢
  let z:DV:=.agg (zz7 [])
  let ks:=w.D6.map DD.D9
  let k:=K6.length
  let v1:=Xb w m1 m2 .val
  have s1:(Xb w m1 m2 m3).set 3 (.list 4 ks,.val)=v1:=rfl;have ln:(w.D6.map DD.D9).length=w.D6.length:=zbq ..;have dl:O3 (.list 4 ks)=some (iN w.D6.length):=by simp[ks,iN]
  have ap:Jy 4 (.list 4 ks) (.list 4 [z])=some (ks,[z]):=by simp only[Jy,and_self,true_and,ks,zbq,zhq,zdq];rw[C8 ⟨by unfold R9;omega,by omega⟩]
  let T1:=K6.set p (.box v1)
  have T1l:T1.length=k:=by simp[T1,k]
  let T2:=T1++[E5.opn 4 ks [z]]
  have o2:LH T2 T1.length=some (4,ks,[z]):=by simp[T2,LH]
  have ai:AC 0 (ks.length+1) (iN w.D6.length)=some w.D6.length:=Jd (by simp[ks])
  let T3:=T2.set T1.length (.opn 4 ks [q.2.2.D9])
  have os:Zl (4,ks,[z]) w.D6.length q.2.2.D9=some (.opn 4 ks [q.2.2.D9]):=by simp only[Zl,ks,zbq,zhq,zdq,y9q];rw[C8 (by omega)];rfl
  have pk:p≠T1.length:=by rw[T1l];omega
  have b3:H5 T3 p=some v1:=by rw[Cm (Ne.symm pk)];simp only[T2];unfold H5;rw[zaq (by rw[T1l];exact lp)];exact Bg lp v1
  have v13:v1[3]?=some (.list 4 ks,.val):=rfl
  let v2:=v1.set 3 (.undef,.arr T1.length 4 0 (ks.length+1))
  let T4:=T3.set p (.box v2)
  have lp3:p<T3.length:=CV b3;have b4:H5 T4 p=some v2:=Bg lp3 v2;have ca:um v2 3=some (T1.length,4,ks.length+1):=rfl;have lk3:T1.length<T2.length:=by simp[T2]
  have o4:LH T4 T1.length=some (4,ks,[q.2.2.D9]):=by unfold LH;rw[z2q pk,zEq lk3]
  have co2:Sl (4,ks,[q.2.2.D9]) 4 (ks.length+1)=some (.list 4 (ks++[q.2.2.D9])):=by simp only[Sl,zhq,zdq];rw[C8 ⟨trivial,trivial,Nat.succ_pos _⟩]
  simp only[d1,I6,co,dl,ap,zhq,zdq,zKq]at start;have s1':(Xb w m1 m2 m3).set 3 (.list 4 (w.D6.map DD.D9),.val)=v1:=rfl;have ap':Jy 4 (.list 4 (w.D6.map DD.D9)) (.list 4 [.agg (zz7 [])])=some (ks,[z]):=ap;have dl':O3 (.list 4 (w.D6.map DD.D9))=some (iN w.D6.length):=dl;simp only[s1',ap',dl',I6,zhq,zdq,zKq,ai]at start;have o2':LH (K6.set p (.box v1)++[E5.opn 4 ks [z]]) (K6.set p (.box v1)).length=some (4,ks,[z]):=o2;simp only[o2',I6,beq_self_eq_true,Bool.and_self,F8,os]at start;have b3':H5 ((K6.set p (.box v1)++[E5.opn 4 ks [z]]).set (K6.set p (.box v1)).length (.opn 4 ks [q.2.2.D9])) p=some v1:=b3;simp only[b3',I6,v13]at start;have b4':H5 (((K6.set p (.box v1)++[E5.opn 4 ks [z]]).set (K6.set p (.box v1)).length (.opn 4 ks [q.2.2.D9])).set p (.box (v1.set 3 (.undef,.arr (K6.set p (.box v1)).length 4 0 (ks.length+1))))) p=some v2:=b4;have o4':LH (((K6.set p (.box v1)++[E5.opn 4 ks [z]]).set (K6.set p (.box v1)).length (.opn 4 ks [q.2.2.D9])).set p (.box (v1.set 3 (.undef,.arr (K6.set p (.box v1)).length 4 0 (ks.length+1))))) T1.length=some (4,ks,[q.2.2.D9]):=o4;simp only[b4',I6,ca,o4',co2]at start
  let w':W:={ q.1 with types:=w.types,vars:=w.vars,D6:=w.D6++[q.2.2] }
  have fin:v2.set 3 (.list 4 (ks++[q.2.2.D9]),.own)=Xb w' m1 m2 .own:=by simp[v2,v1,Xb,ks,w']
  have old:∀x,x<K6.length->x≠p->((T4.set p (.box (v2.set 3 (.list 4 (ks++[q.2.2.D9]),.own)))).set T1.length (.arr 1 []))[x]?=K6[x]?:=by
   intro x hx hp;have hk:T1.length≠x:=by rw[T1l];omega
   rw[z2q hk,z2q (Ne.symm hp),z2q (Ne.symm hp),z2q hk];simp only[T2];rw[zaq (by rw[T1l];exact hx),z2q (Ne.symm hp)]
  have ltb:=a1.st.lt;have ltt:=CV a1.box;have fl:K6.length<=((T4.set p (.box (v2.set 3 (.list 4 (ks++[q.2.2.D9]),.own)))).set T1.length (.arr 1 [])).length:=by simp only[T4,T3,T2,T1,zHq,zlq];omega
  refine⟨_,start,⟨⟨?_,?_⟩,m1,m2,.own,?_,?_,c3,.inr rfl⟩,?_⟩
  ·exact a1.st.mono (old b ltb.1 (Ne.symm A.pp.1)) (old i ltb.2 (Ne.symm A.pp.2.1))
  ·rw[Jo (old t ltt (Ne.symm A.pp.2.2))];exact a1.box
  ·rw[<- fin,Cm (Ne.symm pk)];exact Bg (by have:=lp3;simp only[T3,T4,zHq]at this ⊢;exact this) _
  ·cases g with
   |false=>simpa using c2
   |true=>simp only[F6]at c2 ⊢;obtain⟨n,n1,n2⟩:=c2;have lj:=(z7q.1 n2).1;refine⟨n,n1,?_⟩;rw[old j (z6q lj k1.le) A.jj.2.2.2,k1.eq j lj (by simp;exact⟨A.jj.1,A.jj.2.1,A.jj.2.2.1⟩)];exact n2
  ·exact(EG k1).trans ⟨fl,λx hx hn=>old x hx λe=>hn (by rw[e];simp)⟩
 ·rw[C8 g1];simp only[g1,R5,z9q,F6]at start;exact⟨sg,start,h,Kx.refl _⟩
end
end Go.Su

/-
 Inference in memory: lists, applications, names that are bound, conditions.
-/
namespace Go.Su
set_option linter.defProp false
variable (w:W)
@[simp] theorem A1O(e:Nat)(B:GY):(w.fails e B).D6=w.D6:=by unfold W.fails;split<;>rfl
variable (A8:Nat)
@[simp] def TV:(w.fresh A8).1.D6=w.D6:=by unfold W.fresh;split<;>simp
@[simp] def kC(k a b:Nat):(w.made k a b).1.D6=w.D6:=by unfold W.made;split<;>simp
@[simp] def A9N(t:Ty):(w.put t).1.D6=w.D6:=by unfold W.put;split<;>simp
@[simp] def GI(a b:Nat)(e:Ex):(w.agree a b e).D6=w.D6:=by unfold W.agree;split<;>simp
variable (l:List Nat)
@[simp] theorem kE:(w.Y2 l).D6=w.D6:=rfl
@[simp] theorem A0E:(w.Si l).D6=w.D6:=rfl
@[simp] def kD(t:Ty)(A8:Nat):(w.Ae t A8).1.D6=w.D6:=by
  unfold W.Ae;split
  ·simp
  ·exact TV w A8
@[simp] theorem vB(n A8:Nat):(w.above n A8).1.D6=w.D6:=rfl
def Sa(R:Rec)(w:W)(e:Ex)(A8:Nat)(l:List EN):(J4 R w e A8 l).1.D6.length<=w.D6.length+1:=by
 unfold J4;split
 ·simp only;omega
 ·simp
section
variable {b i t p j:Nat}{g:Bool}{w:W}{sg:List E5}{R:Rec}{e:Ex}{A8:Nat}{l:List EN}
def fB(h:BZ g b i t p j w sg)(A:Fa b i t p j)(ns:List Nat):∃c u,H5 sg p=some c/\c[1]?=some u/\BZ false b i t p j (w.Y2 ns) (sg.set p (.box (c.set 1 (.list 1 (ns.map iN),.full))))/\Kx [b,i,t,p,j] sg (sg.set p (.box (c.set 1 (.list 1 (ns.map iN),.full)))):=by
 obtain⟨m1,m2,m3,c1,c2,c3,c4⟩:=h.d;refine⟨_,_,c1,rfl,⟨⟨?_,?_⟩,.full,m2,m3,?_,?_,c3,c4⟩,Kx.set1 _ _ (by simp)⟩
 ·exact h.t.st.mono (z2q A.pp.1) (z2q A.pp.2.1)
 ·rw[Cm A.pp.2.2];exact h.t.box
 ·exact Bg (CV c1) _
 ·simp
def A6G(h:BZ g b i t p j w sg)(A:Fa b i t p j)(ns:List Nat):∃c u,H5 sg p=some c/\c[2]?=some u/\BZ g b i t p j (w.Si ns) (sg.set p (.box (c.set 2 (.list 1 (ns.map iN),.val))))/\Kx [b,i,t,p,j] sg (sg.set p (.box (c.set 2 (.list 1 (ns.map iN),.val)))):=by
 obtain⟨m1,m2,m3,c1,c2,c3,c4⟩:=h.d;refine⟨_,_,c1,rfl,⟨⟨?_,?_⟩,m1,.val,m3,?_,?_,.inr rfl,c4⟩,Kx.set1 _ _ (by simp)⟩
 ·exact h.t.st.mono (z2q A.pp.1) (z2q A.pp.2.1)
 ·rw[Cm A.pp.2.2];exact h.t.box
 ·exact Bg (CV c1) _
 ·rw[z2q (Ne.symm A.jj.2.2.2)];exact c2
def B5A(A:Fa b i t p j)(h:BZ g b i t p j w sg)(I:l6 w)(hk:e.D6.length=2)(K0:PY b i t R A8 l.length (e.kd 0))(K1:PY b i t R A8 l.length (e.kd 1))(hE:Z6 w.s.l.length l)(hV:EV l)(HV:w.D6=[])(hr:(Ox R w e A8 l).1.s.J7+10<2 ^ 62):
 Tt false b i t p j sg (C9.r Jr [(.undef,.ptr t 0),(e.D9,.val),(iN A8,.val),(.list 3 (l.map EN.D9),.val),(.undef,.ptr p 0)] sg) [iN (Ox R w e A8 l).2] (Ox R w e A8 l).1:=by
 have start:=(jY t e.D9 (iN A8) (.list 3 (l.map EN.D9)) p sg).trans (lT _ _ _ _ _ _ _);simp only[AJ,F8,N_,Uz (show 0<e.D6.length by omega),Uz (show 1<e.D6.length by omega),show(DV.int .i64 0)=iN 0 from rfl,show(DV.int .i64 1)=iN 1 from rfl,show(DV.int .i64 8)=iN 8 from rfl]at start;obtain⟨a1,a2⟩:=U5 K0.good K0.sz I hE;have ak:=Sa R w (e.kd 0) A8 l;have Pa:=FT (g:=g) A h I (idx:=0) (by omega) K0 hE hV (by rw[HV];simp);unfold Ox at hr ⊢;simp only at hr ⊢;generalize J4 R w (e.kd 0) A8 l=a at a1 a2 ak Pa hr ⊢;obtain⟨b1,b2⟩:=U5 K1.good K1.sz a1.i (hE.mono a1.ext.le);have Pb:=λsg' (h':BZ g b i t p j a.1 sg')=>FT (g:=g) A h' a1.i (idx:=1) (by omega) K1 (hE.mono a1.ext.le) hV (by rw[HV]at ak;simp at ak;omega);generalize J4 R a.1 (e.kd 1) A8 l=q at b1 b2 Pb hr ⊢;have lb:A8<2 ^ 31:=by have:=K0.sz;omega
 obtain⟨v1,v2⟩:=Ab b1.i lb;have Pv:=λsg' (h':BZ g b i t p j q.1 sg')=>Nn h' A b1.i.ok A8;generalize q.1.fresh A8=v at v1 v2 Pv hr ⊢;have t1:=Da v1 (l:=[v.2]) (by simpa using v2);have g1:=U4 t1.i (a:=a.2) (b:=v.2) (z6q (b1.lt a2) v1.ext.le) v2 (e.kd 0);have Pg:=λsg' (h':BZ false b i t p j (v.1.Y2 [v.2]) sg')=>DJ h' A t1.i.ok (x:=a.2) (y:=v.2) (z6q (b1.lt a2) v1.ext.le) v2 (e.kd 0);generalize (v.1.Y2 [v.2]).agree a.2 v.2 (e.kd 0)=w1 at g1 Pg hr ⊢;obtain⟨n1,n2⟩:=Dx g1.i (k:=8) (x:=v.2) (y:=0) (.inr (.inl rfl)) (g1.lt v2) (λh=>absurd rfl h);have Pn:=λsg' (h':BZ false b i t p j w1 sg')=>Wp h' A g1.i.ok (k:=8) (x:=v.2) (y:=0) (.inr (.inl rfl)) (g1.lt v2) (λh=>absurd rfl h);generalize w1.made 8 v.2 0=n at n1 n2 Pn hr ⊢;have g2:=U4 n1.i (a:=q.2) (b:=n.2) (n1.lt (g1.lt (v1.lt b2))) n2 (e.kd 1);have r1:=b1.ext.J7;have r2:=v1.ext.J7;have r3:=g1.ext.J7;have r4:=n1.ext.J7;have r5:=g2.ext.J7;have rt:(v.1.Y2 [v.2]).s=v.1.s:=rfl;rw[rt]at r3;obtain⟨s1,e1,m1,k1⟩:=Pa (by omega);obtain⟨s2,e2,m2,k2⟩:=Pb s1 m1 (by omega);obtain⟨s3,e3,m3,k3⟩:=Pv s2 m2;obtain⟨c,u,c1,c2,m4,k4⟩:=fB m3 A [v.2];obtain⟨s5,e5,m5,k5⟩:=Pg _ m4 (by omega);obtain⟨s6,e6,m6,k6⟩:=Pn s5 m5;obtain⟨s7,e7,m7,k7⟩:=DJ m6 A n1.i.ok (x:=q.2) (y:=n.2) (n1.lt (g1.lt (v1.lt b2))) n2 (e.kd 1) hr;simp only[zsq,zuq]at e5;simp only[e1,I6,z0q,e2,e3,O8,F8,c1,c2,N_,e5,e6,e7]at start;exact⟨s7,start,m7,(k1.trans k2).trans (((EG k3).trans k4).trans (((EG k5).trans (EG k6)).trans (EG k7)))⟩
def B7o(A:Fa b i t p j)(h:BZ g b i t p j w sg)(I:l6 w)(hk:e.D6.length=2)(K0:PY b i t R A8 l.length (e.kd 0))(K1:PY b i t R A8 l.length (e.kd 1))(hE:Z6 w.s.l.length l)(hV:EV l)(HV:w.D6=[])(hr:(UN R w e A8 l).1.s.J7+10<2 ^ 62):
 Tt g b i t p j sg (C9.r KW [(.undef,.ptr t 0),(e.D9,.val),(iN A8,.val),(.list 3 (l.map EN.D9),.val),(.undef,.ptr p 0)] sg) [iN (UN R w e A8 l).2] (UN R w e A8 l).1:=by
 have start:=(mI t e.D9 (iN A8) (.list 3 (l.map EN.D9)) p sg).trans (qE _ _ _ _ _ _ _);simp only[AJ,F8,N_,Uz (show 0<e.D6.length by omega),Uz (show 1<e.D6.length by omega),show(DV.int .i64 0)=iN 0 from rfl,show(DV.int .i64 1)=iN 1 from rfl,show(DV.int .i64 9)=iN 9 from rfl,show(DV.int .i64 5)=iN 5 from rfl,show(DV.int .i64 6)=iN 6 from rfl,show(DV.int .i64 4)=iN 4 from rfl]at start;obtain⟨a1,a2⟩:=U5 K0.good K0.sz I hE;have ak:=Sa R w (e.kd 0) A8 l;have Pa:=FT (g:=g) A h I (idx:=0) (by omega) K0 hE hV (by rw[HV];simp);unfold UN at hr ⊢;simp only at hr ⊢;generalize J4 R w (e.kd 0) A8 l=f at a1 a2 ak Pa hr ⊢;obtain⟨b1,b2⟩:=U5 K1.good K1.sz a1.i (hE.mono a1.ext.le);have Pb:=λsg' (h':BZ g b i t p j f.1 sg')=>FT (g:=g) A h' a1.i (idx:=1) (by omega) K1 (hE.mono a1.ext.le) hV (by rw[HV]at ak;simp at ak;omega);generalize J4 R f.1 (e.kd 1) A8 l=a at b1 b2 Pb hr ⊢;have f5:=b1.i.ok.five;have lb:A8<2 ^ 31:=by have:=K0.sz;omega
 have r1:=b1.ext.J7;have fl:=b1.lt a2;have r0:=(dI (e:=e) lb b1.i fl b2).1.ext.J7;obtain⟨s1,e1,m1,k1⟩:=Pa (by omega);obtain⟨s2,e2,m2,k2⟩:=Pb s1 m1 (by omega);have k2:=k1.trans k2;simp only[e1,I6,z0q,e2,JJ m2.t,U1,F3,m2.t.box,JZ,Sy m2.t.st b1.i.ok fl,Nw,I9,N_]at start;unfold WE at hr ⊢;by_cases ge:a.1.err=0;rotate_left
 ·rw[C8 ge]at hr ⊢;simp only[ge,R5,z9q,F6]at start;exact⟨s2,start,m2,k2⟩
 rw[A7 (λh=>h ge)]at hr ⊢;simp only[ge,K3,z5q,z1q,G8]at start;by_cases k5:a.1.s.F9 (a.1.s.root f.2)=5
 ·rw[C8 k5]at hr start ⊢;obtain⟨s3,e3,m3,k3⟩:=DJ m2 A b1.i.ok (x:=a.2) (y:=4) b2 (by omega) (e.kd 1) hr;simp only[e3,I6]at start;exact⟨s3,start,m3,k2.trans (EG k3)⟩
 rw[A7 k5]at hr start ⊢;by_cases k6:a.1.s.F9 (a.1.s.root f.2)=6
 ·rw[C8 k6]at hr start ⊢;simp only at hr ⊢;obtain⟨v1,v2⟩:=Ab b1.i lb;obtain⟨s3,e3,m3,k3⟩:=Nn m2 A b1.i.ok A8;generalize a.1.fresh A8=v at v1 v2 e3 m3 hr ⊢;obtain⟨u1,u2⟩:=Ab v1.i lb;obtain⟨s4,e4,m4,k4⟩:=Nn m3 A v1.i.ok A8;generalize v.1.fresh A8=u at u1 u2 e4 m4 hr ⊢;obtain⟨n1,n2⟩:=Dx u1.i (k:=9) (x:=v.2) (y:=u.2) (.inr (.inr rfl)) (u1.lt v2) (λ_=>u2);obtain⟨s5,e5,m5,k5'⟩:=Wp m4 A u1.i.ok (k:=9) (x:=v.2) (y:=u.2) (.inr (.inr rfl)) (u1.lt v2) (λ_=>u2);generalize u.1.made 9 v.2 u.2=m at n1 n2 e5 m5 hr ⊢;have fm:=n1.lt (u1.lt (v1.lt fl));have g1:=U4 n1.i (a:=f.2) (b:=m.2) fm n2 (e.kd 0);have Pg:=DJ m5 A n1.i.ok (x:=f.2) (y:=m.2) fm n2 (e.kd 0);generalize m.1.agree f.2 m.2 (e.kd 0)=w1 at g1 Pg hr ⊢;have am:=g1.lt (n1.lt (u1.lt (v1.lt b2)));have vm:=g1.lt (n1.lt (u1.lt v2));have r6:=(U4 g1.i (a:=a.2) (b:=v.2) am vm (e.kd 1)).ext.J7;obtain⟨s6,e6,m6,k6'⟩:=Pg (by omega);obtain⟨s7,e7,m7,k7⟩:=DJ m6 A g1.i.ok (x:=a.2) (y:=v.2) am vm (e.kd 1) hr;simp only[e3,I6,z0q,e4,e5,e6,e7]at start;exact⟨s7,start,m7,(k2.trans (EG k3)).trans (((EG k4).trans (EG k5')).trans ((EG k6').trans (EG k7)))⟩
 rw[A7 k6]at hr start ⊢;by_cases k9:a.1.s.F9 (a.1.s.root f.2)=9
 ·rw[C8 k9]at hr start ⊢;have kn:=b1.i.ok.YP (b1.i.ok.Hg fl);rw[k9]at kn;have kn:(a.1.s.I5 (a.1.s.root f.2)).length=2:=kn;have gd:∀x,x<2->(a.1.s.I5 (a.1.s.root f.2)).getD x 0<a.1.s.l.length/\M9 1 (.list 1 ((a.1.s.I5 (a.1.s.root f.2)).map iN)) (iN x)=some (iN ((a.1.s.I5 (a.1.s.root f.2)).getD x 0)):=by
   intro x hx;have Dr:x<(a.1.s.I5 (a.1.s.root f.2)).length:=by omega
   have e0:(a.1.s.I5 (a.1.s.root f.2)).getD x 0=(a.1.s.I5 (a.1.s.root f.2))[x]:=by rw[ziq,zeq Dr];rfl
   rw[e0];exact⟨b1.i.ok.NS fl (z3q Dr),IB Dr⟩
  have kq:=nu m2.t.st b1.i.ok fl;have m2':BZ g b i t p j a.1 (s2++[.arr 1 []]):=by have kx:Kx [b,i,t] s2 (s2++[.arr 1 []]):=Kx.app _ _;refine⟨⟨m2.t.st.app _,?_⟩,m2.d.kx A kx rfl rfl rfl⟩;unfold H5;rw[zaq (CV m2.t.box)];exact m2.t.box
  obtain⟨s3,e3,m3,k3⟩:=DJ m2' A b1.i.ok (x:=a.2) b2 (gd 0 (by omega)).1 (e.kd 1) hr;simp only[kq,I6,z0q,(gd 0 (by omega)).2,Bd,F8,e3,(gd 1 (by omega)).2]at start;exact⟨s3,start,m3,k2.trans ((Kx.app _ _).trans (EG k3))⟩
 ·rw[A7 k9]at hr start ⊢;obtain⟨s3,e3,a3,k3⟩:=bV m2.t 4 ⟨(e.kd 0).lo,(e.kd 0).hi,4,a.1.s.F9 (a.1.s.root f.2),9,Z5⟩;have be:DV.agg [iI (e.kd 0).lo,iI (e.kd 0).hi,iN 4,iN (a.1.s.F9 (a.1.s.root f.2)),iN 9,.str ⟨#[]⟩]=(⟨(e.kd 0).lo,(e.kd 0).hi,4,a.1.s.F9 (a.1.s.root f.2),9,Z5⟩:GY).D9:=rfl;simp only[O8,F8,Ex.FL,Ex.DZ,be,e3,I6]at start;have k4:Kx [b,i,t] s2 s3:=k3.more (by intro x hx;simp only[zoq,zkq,or_false]at hx ⊢;omega);exact⟨s3,start,⟨a3,m2.d.kx A k4 (by unfold W.fails;split<;>rfl) (by unfold W.fails;split<;>rfl) (by unfold W.fails;split<;>rfl)⟩,k2.trans (EG k4)⟩
end
end Go.Su

/-
 Inference in memory: names that are bound, conditions, operators.
-/
namespace Go.Su
set_option linter.defProp false
section
variable {b i t p j:Nat}{g:Bool}{w:W}{sg:List E5}{R:Rec}{e:Ex}{A8:Nat}{l:List EN}(s:ByteArray)
theorem B39(n:Nat)(vs:List Nat):DV.agg [.str s,iN n,.list 1 (vs.map iN)]=(⟨s,n,vs⟩:EN).D9:=rfl
def A68(l:List EN)(s:ByteArray)(n:Nat)(vs:List Nat)(hl:l.length<2 ^ 30)(sg:List E5):C9.r Cz [(.list 3 (l.map EN.D9),.val),(.list 3 [(⟨s,n,vs⟩:EN).D9],.val)] sg=some ([.list 3 ((l++[(⟨s,n,vs⟩:EN)]).map EN.D9)],sg):=A2g l [⟨s,n,vs⟩] (by simp;omega) sg
def kI(A:Fa b i t p j)(h:BZ g b i t p j w sg)(I:l6 w)(hi:1<e.D6.length)(K1:PY b i t R A8 (l.length+1) (e.kd 1))(hE:Z6 w.s.l.length l)(hV:EV l)(HV:w.D6.length<2 ^ 30){n:Nat}{vs:List Nat}(hn:n<w.s.l.length)(hv:∀x∈vs,x<w.s.l.length)(hvl:vs.length<2 ^ 29)(hr:(J4 R w (e.kd 1) A8 (l++[⟨e.name,n,vs⟩])).1.s.J7+10<2 ^ 62):
 Tt g b i t p j sg (Cs C9 t (iN A8) (.list 3 (l.map EN.D9)) p e.D9 (.str e.name) (iN n) (.list 1 (vs.map iN)) sg) [iN (J4 R w (e.kd 1) A8 (l++[⟨e.name,n,vs⟩])).2] (J4 R w (e.kd 1) A8 (l++[⟨e.name,n,vs⟩])).1 /\
 Tt g b i t p j sg (Io C9 t (iN A8) (.list 3 (l.map EN.D9)) p e.D9 (.str e.name) (iN n) (.list 1 (vs.map iN)) sg) [iN (J4 R w (e.kd 1) A8 (l++[⟨e.name,n,vs⟩])).2] (J4 R w (e.kd 1) A8 (l++[⟨e.name,n,vs⟩])).1:=by
 have ms:=K1.ms;have wl:=A68 l e.name n vs (by omega) sg;obtain⟨s1,e1,m1,k1⟩:=FT (idx:=1) A h I hi (l:=l++[⟨e.name,n,vs⟩]) (K1.le (zfq _) (by simp)) (hE.app λx hx=>by rw[zgq.1 hx];exact⟨hn,hv⟩) (hV.app λx hx=>by rw[zgq.1 hx];exact hvl) HV hr;constructor
 ·refine⟨s1,?_,m1,k1⟩;rw[gI];simp only[B39,wl,I6,z0q,N_,show(DV.int .i64 1)=iN 1 from rfl,e1]
 ·refine⟨s1,?_,m1,k1⟩;rw[jJ];simp only[B39,wl,I6,z0q,N_,show(DV.int .i64 1)=iN 1 from rfl,e1]
def B0z(e:Ex):DV.agg [A9 8 e.D9,A9 9 e.D9,A9 10 e.D9]=e.a.D9/\DV.agg [A9 11 e.D9,A9 12 e.D9,A9 13 e.D9]=e.b.D9:=by simp[Ty.BD,Ty.ag]
def B7p(A:Fa b i t p j)(h:BZ g b i t p j w sg)(I:l6 w)(hk:e.D6.length=2)(Uy:e.right=true)(BQ:(e.kd 0).fit)(hza:e.a.size<2 ^ 40)(Xt:e.a.thin=true)(K0:PY b i t R (A8+1) (l.length+1) (e.kd 0))(K1:PY b i t R A8 (l.length+1) (e.kd 1))(hE:Z6 w.s.l.length l)(hV:EV l)(HV:w.D6=[])(hr:(VD R w e A8 l).1.s.J7+10<2 ^ 62):
 Tt g b i t p j sg (C9.r KX [(.undef,.ptr t 0),(e.D9,.val),(iN A8,.val),(.list 3 (l.map EN.D9),.val),(.undef,.ptr p 0)] sg) [iN (VD R w e A8 l).2] (VD R w e A8 l).1:=by
 have start:=(mK t e.D9 (iN A8) (.list 3 (l.map EN.D9)) p sg).trans (qG _ _ _ _ _ _ _);have na:=(Ex.kK Uy).1;have rk:(e.kd 0).right=true:=Ex.Hf Uy (Ex.Cr (by omega));have Kz:=K0.le (lev':=A8) (n':=l.length) (by omega) (by omega);have sz0:=K0.sz;have pv:J3 (A9 3 e.D9)=true/\A9 3 e.D9=.str e.name:=⟨by rw[Ex.L_];rfl,Ex.L_ e⟩;have p8:D7 .neq (A9 8 e.D9) (iN 0)=some (.bool (!decide (e.a.E8=0))):=by rw[Ex.A97,iN,Dm];rfl
 simp only[AJ,F8,pv.1,p8,N_,(B0z e).1,Uz (show 0<e.D6.length by omega),I6,F3,A39 _ BQ,rk,zjq,show(DV.int .i64 0)=iN 0 from rfl,addN (show A8<2 ^ 62 by omega)]at start;rw[pv.2]at start;unfold VD at hr ⊢;by_cases ka:e.a.E8=0
 ·rw[A7 (λh=>h ka)]at hr ⊢;simp only[ka,K3,z5q,z1q,G8]at start;by_cases kv:(e.kd 0).value=true
  ·rw[C8 kv]at hr start ⊢;simp only at hr ⊢;obtain⟨a1,a2⟩:=U5 (w:=w) (l:=l) K0.good K0.sz I hE;have ak:=Sa R w (e.kd 0) (A8+1) l;have Pa:=FT (g:=g) (l:=l) A h I (idx:=0) (by omega) (K0.le (zfq _) (by omega)) hE hV (by rw[HV];simp);generalize J4 R w (e.kd 0) (A8+1) l=a at a1 a2 ak Pa hr ⊢;rw[HV]at ak;simp only[zdq]at ak;by_cases ge:a.1.err=0
   ·rw[A7 (λh=>h ge)]at hr ⊢;have rr:=(U5 (R:=R) (A8:=A8) (l:=l++[⟨e.name,a.2,(a.1.above a.2 A8).2⟩]) K1.good K1.sz (Ho (Ba a1.i (n:=a.2) (A8:=A8) a2).1 (Ba a1.i (n:=a.2) (A8:=A8) a2).2).i ((hE.mono (a1.ext.trans (Ba a1.i (n:=a.2) (A8:=A8) a2).1.ext).le).app λx hx=>by rw[zgq.1 hx];exact⟨(Ba a1.i (n:=a.2) (A8:=A8) a2).1.lt a2,(Ba a1.i (n:=a.2) (A8:=A8) a2).2.1⟩)).1.ext.J7;obtain⟨c1,c2,cl⟩:=Ba a1.i (n:=a.2) (A8:=A8) a2;have ra:(a.1.above a.2 A8).1.s.J7=a.1.s.J7+1:=rfl;have rv:((a.1.above a.2 A8).1.Si (a.1.above a.2 A8).2).s=(a.1.above a.2 A8).1.s:=rfl;rw[rv]at rr;obtain⟨s1,e1,m1,k1⟩:=Pa (by omega);obtain⟨s2,e2,m2,k2⟩:=A6V m1 A a1.i.ok (by omega) a2 A8;obtain⟨c,u,x1,x2,m3,k3⟩:=A6G m2 A (a.1.above a.2 A8).2;have v:=Ho c1 ⟨c2,cl⟩;obtain⟨s4,e4,m4,k4⟩:=(kI (e:=e) (l:=l) A m3 v.i (by omega) K1 (hE.mono (a1.trans v).ext.le) hV (by simp only[A0E,vB];omega) (v.lt a2) c2 cl hr).1;simp only[e1,I6,z0q,O8,F8,JJ m1.t,ge,K3,F3,F6,e2,XC,x1,x2,e4]at start;exact⟨s4,start,m4,k1.trans ((EG k2).trans (k3.trans k4))⟩
   ·rw[C8 ge]at hr ⊢;have rr:=(U5 (R:=R) (A8:=A8) (l:=l++[⟨e.name,a.2,[]⟩]) K1.good K1.sz a1.i ((hE.mono a1.ext.le).app (Z6.one a2))).1.ext.J7;obtain⟨s1,e1,m1,k1⟩:=Pa (by omega);obtain⟨s4,e4,m4,k4⟩:=(kI (e:=e) (l:=l) A m1 a1.i (by omega) K1 (hE.mono a1.ext.le) hV (by omega) a2 (vs:=[]) (by simp) (by simp) hr).1;simp only[zuq]at e4;simp only[e1,I6,z0q,O8,F8,JJ m1.t,ge,R5,F3,z1q,G8,e4]at start;exact⟨s4,start,m4,k1.trans k4⟩
  ·rw[A7 kv]at hr ⊢;have kv':(e.kd 0).value=false:=by simpa using kv
   rw[kv']at start;simp only[z1q,G8]at hr start ⊢;obtain⟨a1,a2⟩:=U5 (w:=w) (l:=l) Kz.good Kz.sz I hE;have ak:=Sa R w (e.kd 0) A8 l;have Pa:=FT (g:=g) (l:=l) A h I (idx:=0) (by omega) Kz hE hV (by rw[HV];simp);generalize J4 R w (e.kd 0) A8 l=a at a1 a2 ak Pa hr ⊢;rw[HV]at ak;simp only[zdq]at ak;have rr:=(U5 (R:=R) (A8:=A8) (l:=l++[⟨e.name,a.2,[]⟩]) K1.good K1.sz a1.i ((hE.mono a1.ext.le).app (Z6.one a2))).1.ext.J7;obtain⟨s1,e1,m1,k1⟩:=Pa (by omega);obtain⟨s4,e4,m4,k4⟩:=(kI (e:=e) (l:=l) A m1 a1.i (by omega) K1 (hE.mono a1.ext.le) hV (by omega) a2 (vs:=[]) (by simp) (by simp) hr).1;simp only[zuq]at e4;simp only[e1,I6,z0q,O8,F8,e4]at start;exact⟨s4,start,m4,k1.trans k4⟩
 ·rw[C8 ka]at hr ⊢;simp only[ka,R5,z9q,F6]at hr start ⊢;obtain⟨a1,a2⟩:=U5 (w:=w) (l:=l) Kz.good Kz.sz I hE;have ak:=Sa R w (e.kd 0) A8 l;have Pa:=FT (g:=g) (l:=l) A h I (idx:=0) (by omega) Kz hE hV (by rw[HV];simp);generalize J4 R w (e.kd 0) A8 l=a at a1 a2 ak Pa hr ⊢;rw[HV]at ak;simp only[zdq]at ak;obtain⟨n1,n2⟩:=QM a1.i (na ka);have nk:=A9N a.1 e.a;have Pn:=λsg' (h':BZ g b i t p j a.1 sg')=>A2c h' A a1.i.ok (na ka) hza Xt;generalize a.1.put e.a=n at n1 n2 nk Pn hr ⊢;have g1:=U4 n1.i (a:=a.2) (b:=n.2) (n1.lt a2) n2 (e.kd 0);have gk:=GI n.1 a.2 n.2 (e.kd 0);have Pg:=λsg' (h':BZ g b i t p j n.1 sg')=>DJ h' A n1.i.ok (x:=a.2) (y:=n.2) (n1.lt a2) n2 (e.kd 0);generalize n.1.agree a.2 n.2 (e.kd 0)=w1 at g1 gk Pg hr ⊢;have ag:=(a1.trans n1).trans g1;have rr:=(U5 (R:=R) (A8:=A8) (l:=l++[⟨e.name,n.2,[]⟩]) K1.good K1.sz g1.i ((hE.mono ag.ext.le).app (Z6.one (g1.lt n2)))).1.ext.J7;have r1:=n1.ext.J7;have r2:=g1.ext.J7;obtain⟨s1,e1,m1,k1⟩:=Pa (by omega);obtain⟨s2,e2,m2,k2⟩:=Pn s1 m1;obtain⟨s3,e3,m3,k3⟩:=Pg s2 m2 (by omega);obtain⟨s4,e4,m4,k4⟩:=(kI (e:=e) (l:=l) A m3 g1.i (by omega) K1 (hE.mono ag.ext.le) hV (by rw[gk,nk];omega) (g1.lt n2) (vs:=[]) (by simp) (by simp) hr).1;simp only[zuq]at e4;simp only[e1,I6,z0q,O8,F8,e2,e3,e4]at start;exact⟨s4,start,m4,k1.trans ((EG k2).trans ((EG k3).trans k4))⟩
def B7s(A:Fa b i t p j)(h:BZ true b i t p j w sg)(I:l6 w)(hk:e.D6.length=2)(Uy:e.right=true)(hza:e.a.size<2 ^ 40)(Xt:e.a.thin=true)(hzb:e.b.size<2 ^ 40)(B8K:e.b.thin=true)(K0:PY b i t R (A8+1) (l.length+2) (e.kd 0))(K1:PY b i t R A8 (l.length+1) (e.kd 1))(hE:Z6 w.s.l.length l)(hV:EV l)(HV:w.D6=[])(htl:w.types=[])(hr:(VM R w e A8 l).1.s.J7+10<2 ^ 62):
 Tt true b i t p j sg (C9.r KY [(.undef,.ptr t 0),(e.D9,.val),(iN A8,.val),(.list 3 (l.map EN.D9),.val),(.undef,.ptr p 0)] sg) [iN (VM R w e A8 l).2] (VM R w e A8 l).1:=by
 have start:=(mO t e.D9 (iN A8) (.list 3 (l.map EN.D9)) p sg).trans (qI _ _ _ _ _ _ _);have na:=(Ex.kK Uy).1;have nb:=Ex.A0P Uy;have sz0:=K0.sz;have c3:J3 (A9 3 e.D9)=true:=by rw[Ex.L_];rfl
 have c4:J3 (A9 4 e.D9)=true:=by rw[Ex.ed];rfl
 simp only[AJ,F8,c3,c4,N_,(B0z e).1,(B0z e).2,Uz (show 0<e.D6.length by omega),addN (show A8<2 ^ 62 by omega),I6,show(DV.int .i64 0)=iN 0 from rfl,show(DV.int .i64 9)=iN 9 from rfl]at start;rw[Ex.L_,Ex.ed]at start;have lb:A8+1<2 ^ 31:=by omega
 unfold VM at hr ⊢;simp only at hr ⊢;obtain⟨p1,p2⟩:=Qr I (A8:=A8+1) na lb;have pk:=kD w e.a (A8+1);have pt:(w.Ae e.a (A8+1)).1.types.length<=1:=by
  unfold W.Ae;split
  ·unfold W.put;split<;>simp[htl,Rv]
  ·simp[W.tell,xC,htl]
 obtain⟨s1,e1,m1,k1⟩:=zC h A I.ok na hza Xt (A8+1) (by rw[htl];simp);generalize w.Ae e.a (A8+1)=pp at p1 p2 pk pt e1 m1 hr ⊢;obtain⟨r1,r2⟩:=Qr p1.i (A8:=A8+1) nb lb;have rk:=kD pp.1 e.b (A8+1);obtain⟨s2,e2,m2,k2⟩:=zC m1 A p1.i.ok nb hzb B8K (A8+1) (by omega);generalize pp.1.Ae e.b (A8+1)=r at r1 r2 rk e2 m2 hr ⊢;obtain⟨f1,f2⟩:=Dx r1.i (k:=9) (x:=pp.2) (y:=r.2) (.inr (.inr rfl)) (r1.lt p2) (λ_=>r2);have fk:=kC r.1 9 pp.2 r.2;obtain⟨s3,e3,m3,k3⟩:=Wp m2 A r1.i.ok (k:=9) (x:=pp.2) (y:=r.2) (.inr (.inr rfl)) (r1.lt p2) (λ_=>r2);generalize r.1.made 9 pp.2 r.2=f at f1 f2 fk e3 m3 hr ⊢;have pf:=(p1.trans r1).trans f1;have hE2:Z6 f.1.s.l.length (l++[⟨e.name,f.2,[]⟩,⟨e.arg,pp.2,[]⟩]):=(hE.mono pf.ext.le).app λx hx=>by
  simp only[zoq,zkq,or_false]at hx;rcases hx with rfl | rfl
  ·exact⟨f2,by simp⟩
  ·exact⟨f1.lt (r1.lt p2),by simp⟩
 have hV2:EV (l++[⟨e.name,f.2,[]⟩,⟨e.arg,pp.2,[]⟩]):=hV.app λx hx=>by simp only[zoq,zkq,or_false]at hx;rcases hx with rfl | rfl<;>simp
 obtain⟨b1,b2⟩:=U5 (w:=f.1) (l:=l++[⟨e.name,f.2,[]⟩,⟨e.arg,pp.2,[]⟩]) K0.good K0.sz f1.i hE2;have bk:=Sa R f.1 (e.kd 0) (A8+1) (l++[⟨e.name,f.2,[]⟩,⟨e.arg,pp.2,[]⟩]);have k0l:f.1.D6.length=0:=by rw[fk,rk,pk,HV];rfl
 have Pb:=FT (l:=l++[⟨e.name,f.2,[]⟩,⟨e.arg,pp.2,[]⟩]) A m3 f1.i (idx:=0) (by omega) (K0.le (zfq _) (by simp)) hE2 hV2 (by omega);generalize J4 R f.1 (e.kd 0) (A8+1) (l++[⟨e.name,f.2,[]⟩,⟨e.arg,pp.2,[]⟩])=q at b1 b2 bk Pb hr ⊢;have g1:=U4 b1.i (a:=q.2) (b:=r.2) b2 (b1.lt (f1.lt r2)) (e.kd 0);have gk:=GI q.1 q.2 r.2 (e.kd 0);have Pg:=λsg' (h':BZ true b i t p j q.1 sg')=>DJ h' A b1.i.ok (x:=q.2) (y:=r.2) b2 (b1.lt (f1.lt r2)) (e.kd 0);generalize q.1.agree q.2 r.2 (e.kd 0)=w1 at g1 gk Pg hr ⊢;have pg:=(pf.trans b1).trans g1;have fl:=g1.lt (b1.lt f2);have ra:=g1.ext.J7;have kw:w1.D6.length<2 ^ 30:=by rw[gk];omega
 have wl:=A2g l [⟨e.name,f.2,[]⟩,⟨e.arg,pp.2,[]⟩] (by have:=K1.ms;simp;omega) s3;have wl':C9.r Cz [(.list 3 (l.map EN.D9),.val),(.list 3 [.agg [.str e.name,iN f.2,.list 1 []],.agg [.str e.arg,iN pp.2,.list 1 []]],.val)] s3=_:=wl;by_cases ge:w1.err=0
 ·rw[A7 (λh=>h ge)]at hr ⊢;obtain⟨c1,c2,cl⟩:=Ba g1.i (n:=f.2) (A8:=A8) fl;have v:=Ho c1 ⟨c2,cl⟩;have rr:=(U5 (R:=R) (A8:=A8) (l:=l++[⟨e.name,f.2,(w1.above f.2 A8).2⟩]) K1.good K1.sz v.i ((hE.mono (pg.trans v).ext.le).app λx hx=>by rw[zgq.1 hx];exact⟨v.lt fl,c2⟩)).1.ext.J7;have rv:((w1.above f.2 A8).1.Si (w1.above f.2 A8).2).s.J7=w1.s.J7+1:=rfl;rw[rv]at rr;obtain⟨s4,e4,m4,k4⟩:=Pb (by omega);obtain⟨s5,e5,m5,k5⟩:=Pg s4 m4 (by omega);obtain⟨s6,e6,m6,k6⟩:=A6V m5 A g1.i.ok (by omega) fl A8;obtain⟨c,u,x1,x2,m7,k7⟩:=A6G m6 A (w1.above f.2 A8).2;obtain⟨s8,e8,m8,k8⟩:=(kI (e:=e) (l:=l) A m7 v.i (by omega) K1 (hE.mono (pg.trans v).ext.le) hV (by simp only[A0E,vB];exact kw) (v.lt fl) c2 cl hr).2;simp only[e1,I6,z0q,e2,e3,O8,F8,wl',e4,e5,JJ m5.t,ge,K3,F3,F6,e6,XC,x1,x2,e8]at start;exact⟨s8,start,m8,(k1.trans k2).trans (((EG k3).trans k4).trans (((EG k5).trans (EG k6)).trans (k7.trans k8)))⟩
 ·rw[C8 ge]at hr ⊢;have rr:=(U5 (R:=R) (A8:=A8) (l:=l++[⟨e.name,f.2,[]⟩]) K1.good K1.sz g1.i ((hE.mono pg.ext.le).app (Z6.one fl))).1.ext.J7;obtain⟨s4,e4,m4,k4⟩:=Pb (by omega);obtain⟨s5,e5,m5,k5⟩:=Pg s4 m4 (by omega);obtain⟨s8,e8,m8,k8⟩:=(kI (e:=e) (l:=l) A m5 g1.i (by omega) K1 (hE.mono pg.ext.le) hV kw fl (vs:=[]) (by simp) (by simp) hr).2;simp only[zuq]at e8;simp only[e1,I6,z0q,e2,e3,O8,F8,wl',e4,e5,JJ m5.t,ge,R5,F3,z1q,G8,e8]at start;exact⟨s8,start,m8,(k1.trans k2).trans (((EG k3).trans k4).trans ((EG k5).trans k8))⟩
def B5z(A:Fa b i t p j)(h:BZ g b i t p j w sg)(I:l6 w)(hk:e.D6.length=3)(K0:PY b i t R A8 l.length (e.kd 0))(K1:PY b i t R A8 l.length (e.kd 1))(K2:PY b i t R A8 l.length (e.kd 2))(hE:Z6 w.s.l.length l)(hV:EV l)(HV:w.D6=[])(hr:(Ow R w e A8 l).1.s.J7+10<2 ^ 62):
 Tt false b i t p j sg (C9.r Jq [(.undef,.ptr t 0),(e.D9,.val),(iN A8,.val),(.list 3 (l.map EN.D9),.val),(.undef,.ptr p 0)] sg) [iN (Ow R w e A8 l).2] (Ow R w e A8 l).1:=by
 have start:=(jX t e.D9 (iN A8) (.list 3 (l.map EN.D9)) p sg).trans (lS _ _ _ _ _ _ _);simp only[AJ,F8,N_,show(DV.int .i64 0)=iN 0 from rfl,show(DV.int .i64 1)=iN 1 from rfl,show(DV.int .i64 2)=iN 2 from rfl,Uz (show 0<e.D6.length by omega),Uz (show 1<e.D6.length by omega),Uz (show 2<e.D6.length by omega)]at start;obtain⟨c1,c2⟩:=U5 K0.good K0.sz I hE;have ck:=Sa R w (e.kd 0) A8 l;have Pc:=FT (g:=g) A h I (idx:=0) (by omega) K0 hE hV (by rw[HV];simp);unfold Ow at hr ⊢;simp only at hr ⊢;generalize J4 R w (e.kd 0) A8 l=c at c1 c2 ck Pc hr ⊢;rw[HV]at ck;simp only[zdq]at ck;have f5:=c1.i.ok.five;have g0:=U4 c1.i (a:=c.2) (b:=1) c2 (by omega) (e.kd 0);have gk:=GI c.1 c.2 1 (e.kd 0);have P0:=λsg' (h':BZ g b i t p j c.1 sg')=>DJ h' A c1.i.ok (x:=c.2) (y:=1) c2 (by omega) (e.kd 0);have cg:=c1.trans g0;generalize c.1.agree c.2 1 (e.kd 0)=w0 at g0 cg gk P0 hr ⊢;obtain⟨a1,a2⟩:=U5 K1.good K1.sz g0.i (hE.mono cg.ext.le);have ak:=Sa R w0 (e.kd 1) A8 l;have Pa:=λsg' (h':BZ g b i t p j w0 sg')=>FT (g:=g) A h' g0.i (idx:=1) (by omega) K1 (hE.mono cg.ext.le) hV (by rw[gk];omega);generalize J4 R w0 (e.kd 1) A8 l=a at a1 a2 ak Pa hr ⊢;have ca:=cg.trans a1;obtain⟨b1,b2⟩:=U5 K2.good K2.sz a1.i (hE.mono ca.ext.le);have Pb:=λsg' (h':BZ g b i t p j a.1 sg')=>FT (g:=g) A h' a1.i (idx:=2) (by omega) K2 (hE.mono ca.ext.le) hV (by rw[gk]at ak;omega);generalize J4 R a.1 (e.kd 2) A8 l=q at b1 b2 Pb hr ⊢;have lb:A8<2 ^ 31:=by have:=K0.sz;omega
 obtain⟨v1,v2⟩:=Ab b1.i lb;have Pv:=λsg' (h':BZ g b i t p j q.1 sg')=>Nn h' A b1.i.ok A8;generalize q.1.fresh A8=v at v1 v2 Pv hr ⊢;have t1:=Da v1 (l:=[v.2]) (by simpa using v2);have av:=v1.lt (b1.lt a2);have g1:=U4 t1.i (a:=a.2) (b:=v.2) av v2 (e.kd 1);have Pg:=λsg' (h':BZ false b i t p j (v.1.Y2 [v.2]) sg')=>DJ h' A t1.i.ok (x:=a.2) (y:=v.2) av v2 (e.kd 1);generalize (v.1.Y2 [v.2]).agree a.2 v.2 (e.kd 1)=w1 at g1 Pg hr ⊢;have bv:=g1.lt (v1.lt b2);have g2:=U4 g1.i (a:=q.2) (b:=v.2) bv (g1.lt v2) (e.kd 2);have r0:=g0.ext.J7;have ra:=a1.ext.J7;have rb:=b1.ext.J7;have rv:=v1.ext.J7;have r1:=g1.ext.J7;have r2:=g2.ext.J7;have rt:(v.1.Y2 [v.2]).s=v.1.s:=rfl;rw[rt]at r1;have hr:(w1.agree q.2 v.2 (e.kd 2)).s.J7+10<2 ^ 62:=hr;obtain⟨s1,e1,m1,k1⟩:=Pc (by omega);obtain⟨s2,e2,m2,k2⟩:=P0 s1 m1 (by omega);obtain⟨s3,e3,m3,k3⟩:=Pa s2 m2 (by omega);obtain⟨s4,e4,m4,k4⟩:=Pb s3 m3 (by omega);obtain⟨s5,e5,m5,k5⟩:=Pv s4 m4;obtain⟨cc,u,x1,x2,m6,k6⟩:=fB m5 A [v.2];obtain⟨s7,e7,m7,k7⟩:=Pg _ m6 (by omega);obtain⟨s8,e8,m8,k8⟩:=DJ m7 A g1.i.ok (x:=q.2) (y:=v.2) bv (g1.lt v2) (e.kd 2) hr;simp only[zsq,zuq]at e7;simp only[e1,I6,z0q,N_,e2,e3,e4,e5,O8,F8,x1,x2,e7,e8]at start;exact⟨s8,start,m8,(k1.trans (EG k2)).trans ((k3.trans k4).trans (((EG k5).trans k6).trans ((EG k7).trans (EG k8))))⟩
end
end Go.Su
