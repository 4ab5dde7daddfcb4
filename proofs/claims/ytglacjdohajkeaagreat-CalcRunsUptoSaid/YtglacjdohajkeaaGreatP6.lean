/-
  Parts of the proof, merged: Q, TY1, TY2, TY3, TY4, TY5, TY6, TY7, TY8.
-/
import Derived.Test.YtglacjdohajkeaaGreatP3
import Derived.Test.YtglacjdohajkeaaGreatP4
import Derived.Test.YtglacjdohajkeaaGreatP5
set_option linter.unusedVariables false
set_option linter.unusedSimpArgs false
/-
 The functions' specs that this claim needs.
-/
open Bool renaming false_eq_true → z0q, not_eq_true' → z6q, not_true → z9q, and_eq_true → zdq, not_false → zrq, true_and → zxq, and_true → zDq, eq_iff_iff → zIq, and_assoc → y0q, if_true_left → y4q, eq_false_iff → y8q, false_or → ygq
open Int renaming cast_ofNat_Int → zaq, ofNat_lt → zeq, natCast_zero → zhq, lt_irrefl → ziq, ofNat_zero → zmq, ofNat_inj → zzq, natCast_nonneg → zYq, toNat_natCast → y2q
open List renaming getElem_mem → z1q, drop_eq_getElem_cons → z2q, length_map → z3q, getElem?_eq_getElem → z4q, take_succ_eq_append_getElem → z5q, take_of_length_le → z8q, drop_of_length_le → zbq, drop_zero → zcq, getD_eq_getElem?_getD → zfq, getD_cons_zero → zjq, getElem?_cons_zero → zkq, map_cons → zlq, getElem?_cons_succ → znq, nil_append → zoq, drop_length → zpq, getElem?_map → zqq, sum_cons → zsq, length_append → ztq, eq_nil_of_length_eq_zero → zuq, append_assoc → zvq, set_cons_zero → zwq, map_nil → zAq, mem_take_iff_getElem → zBq, mem_append → zCq, length_take → zEq, mem_cons_self → zFq, mem_singleton → zGq, countP_append → zHq, take_length → zJq, nodup_iff_pairwise_ne → zKq, mem_cons → zMq, pairwise_iff_getElem → zNq, append_nil → zOq, set_cons_succ → zPq, flatMap_cons → zQq, map_set → zRq, drop_eq_nil_of_le → zSq, getElem?_set_self → zTq, all_eq_true → zUq, getElem_set_self → zVq, mem_cons_of_mem → zWq, length_zip → zXq, take_set_of_le → zZq, take_zero → y1q, getElem?_drop → y3q, all_cons → y5q, map_take → y6q, nodup_append → y7q, sum_nil → yaq, length_nil → ybq, find?_cons → ycq, foldl_cons → ydq, range_succ → yeq, drop_drop → yfq
open Nat renaming le_of_lt → z7q, le_refl → zgq, zero_add → zyq, zero_le → zLq, le_trans → y9q
namespace Go.Su
noncomputable section
theorem big {n:Nat} (h:n<=lim):n<4294967297:=by unfold lim at h;omega
theorem Ty.B8b {t k:Ty} (ht:t.size<=lim) (h:k∈t.kids):k.size<=lim:=by have:=Ty.Dy h;omega
theorem Ty.B1o {t:Ty} (ht:t.size<=lim):t.kids.length<4294967296:=by have:=t.A4Q;have:=big ht;omega
variable (k:Int)
theorem jf:(run cfg).p ZQ [.int .i64 k]=some (.int .i64 (arity k)):=by
 refine (xg _).trans ?_;rw [A1E];simp [arity]
 by_cases h1:k=1 <;> by_cases h2:k=2 <;> by_cases h3:k=3 <;> by_cases h4:k=4 <;> by_cases h5:k=5 <;> by_cases h6:k=6 <;> by_cases h7:k=7 <;> by_cases h8:k=8 <;> by_cases h9:k=9 <;> simp_all
theorem A95:(run cfg).p jA [.int .i64 k]=some (.int .i64 (arity k)):=by
 refine (uA _).trans ?_;rw [xO];simp [arity]
 by_cases h1:k=1 <;> by_cases h2:k=2 <;> by_cases h3:k=3 <;> by_cases h4:k=4 <;> by_cases h5:k=5 <;> by_cases h6:k=6 <;> by_cases h7:k=7 <;> by_cases h8:k=8 <;> by_cases h9:k=9 <;> simp_all
variable (t:Ty)
theorem fF:t.thin=true->(run cfg).p ET [t.enc]=some (.bool t.right):=by
 induction t using Ty.ind with
 | h t ih =>
   intro ht;have hb:=t.D_ ht;refine (tH _).trans ?_;have loop:Hw (run cfg) (.int .i64 0) t.enc=_:=Lh (l:=t.kids) (f:=Ty.right) (P:=fun i=>Hw (run cfg) (.int .i64 i) t.enc) (y := .bool true) (n := .bool false)
    (by rw [UI];simp)
    (fun i h=>by
      rw [UI];simp [h,I8 h,Ty.Q9,Ty.ag,ih _ (z1q h) (Ty.Gg ht (z1q h)),N9 (show i<9223372036854775807 by omega)]
      cases t.kids[i].right <;> rfl)
   rw [w_];simp only [R5,D6,Ty.Y3,Ty.JX,Ty.El,jf,E9,K5,Ap,H7,X8,H5,C8,loop,Ty.right_eq t,z3q]
   grind
theorem A96:t.thin=true->(run cfg).p Wi [t.enc]=some (.bool t.right):=by
 induction t using Ty.ind with
 | h t ih =>
   intro ht;have hb:=t.D_ ht;refine (uB _).trans ?_;have loop:KR (run cfg) (.list 3 (t.kids.map Ty.enc)) (.int .i64 t.kids.length) (.int .i64 0)=_:=Lh (l:=t.kids) (f:=Ty.right) (P:=fun i=>KR (run cfg) (.list 3 (t.kids.map Ty.enc)) (.int .i64 t.kids.length) (.int .i64 i)) (y := .bool true) (n := .bool false)
    (by rw [UV];simp)
    (fun i h=>by
      rw [UV];simp [h,I8 h,Ty.Q9,Ty.ag,ih _ (z1q h) (Ty.Gg ht (z1q h)),N9 (show i<9223372036854775807 by omega)]
      cases t.kids[i].right <;> rfl)
   rw [xP];simp only [R5,D6,Ty.Y3,Ty.JX,Ty.El,A95,E9,K5,Ap,H7,X8,IR,Ao,M0,H5,C8,loop,Ty.right_eq t,z3q];have h0:t.kind=6->arity t.kind=0:=fun h=>by rw [h];rfl
   have h7:t.kind=6->arity t.kind=t.kids.length->t.kids.all Ty.right=true:=fun h h'=>by
    have:t.kids=[]:=zuq (by have:=h0 h;omega)
    rw [this];rfl
   have h8:(t.kids.length:Int)=arity t.kind ↔ arity t.kind=t.kids.length:=eq_comm;simp only [h8,B4j,A81];refine C0T ?_
   by_cases h1:arity t.kind=t.kids.length
   ·have h2:¬ (arity t.kind<0):=by omega
    by_cases h4:t.kind=6
    ·simp [h1,h2,h4,h7 h4 h1]
     omega
    ·by_cases h5:t.n=0 <;> simp [h1,h2,h4,h5]
   ·by_cases h2:arity t.kind<0 <;> simp [h1,h2]
theorem GG (ht:t.thin=true):(run cfg).p Jc [t.enc]=some (.int .i64 (if t.right=true then 0 else 1)):=by
 refine (t_ _).trans ?_;rw [xN];simp [Ty.Q9,Ty.ag,A96 t ht];cases t.right <;> rfl
theorem A2H:t.size<=lim->(run cfg).p ZR [t.enc]=some (.int .i64 t.size):=by
 induction t using Ty.ind with
 | h t ih =>
   intro ht;have hb:=Ty.B1o ht;refine (xn _).trans ?_;rw [A1I];simp only [R5,D6];have loop:=JU (l:=t.kids) (P:=fun i (a:Nat)=>Qz (run cfg) (.int .i64 a) (.int .i64 i) t.enc) (g:=fun a k=>a+k.size) (fin:=fun a=>some (.int .i64 a))
    (I:=fun i a=>a+((t.kids.drop i).map Ty.size).sum<=lim)
    (fun a _=>by rw [Vj];simp)
    (fun i h a ha=>by
      rw [z2q h,zlq,zsq] at ha;have:=big ha;refine ⟨?_,by omega⟩
      rw [Vj];simp [h,I8 h,Ty.Q9,Ty.ag,ih _ (z1q h) (Ty.B8b ht (z1q h)),N9 (show i<9223372036854775807 by omega)]
      rw [Nt (by omega) (by omega)]
      simp) 1 (by have:=Ty.size_eq t;simpa using (by omega:1+(t.kids.map Ty.size).sum<=lim))
   have e:∀ (l:List Ty) (a:Nat),l.foldl (fun a k=>a+k.size) a=a+(l.map Ty.size).sum:=by
    intro l
    induction l with
    | nil=>intro a;simp
    | cons x l ih=>intro a;simp [ih];omega
   rw [e,<- Ty.size_eq] at loop;exact loop
theorem XF (a:Ty):a.thin=true->∀ b:Ty,(run cfg).p LD [a.enc,b.enc]=some (.bool (decide (a=b))):=by
 induction a using Ty.ind with
 | h a ih =>
   intro ha b;have hb:=a.D_ ha;refine (yM _ _).trans ?_;rw [A11];simp
   by_cases h1:a.kind=b.kind <;> simp [h1,Ty.FU]
   by_cases h2:a.n=b.n <;> simp [h2]
   by_cases h3:a.kids.length=b.kids.length
   ·have loop:=SQ (l:=a.kids) (m:=b.kids) h3 (P:=fun i=>RU (run cfg) (.list 3 (a.kids.map Ty.enc)) (.int .i64 a.kids.length) (.int .i64 i) b.enc) (y := .bool true) (n := .bool false)
     (by rw [Vx];simp [h3])
     (fun i h=>by
       have h':i<b.kids.length:=by omega
       rw [Vx];simp [h,h',I8 h,I8 h',Ty.Q9,Ty.ag,ih _ (z1q h) (Ty.Gg ha (z1q h)),N9 (show i<9223372036854775807 by omega)])
    simp only [h3] at loop ⊢;simp [loop]
    by_cases h4:a.kids=b.kids <;> simp [h4]
   ·have:a.kids≠b.kids:=fun h=>h3 (by rw [h])
    simp [zzq,h3,this]
theorem Fv (a:Ty):a.thin=true->∀ b:Ty,(run cfg).p Dl [a.enc,b.enc]=some (.bool (decide (a=b))):=by
 induction a using Ty.ind with
 | h a ih =>
   intro ha b;have hb:=a.D_ ha;refine (xm _ _).trans ?_;rw [A1H];simp
   by_cases h1:a.kind=b.kind <;> simp [h1,Ty.FU]
   by_cases h2:a.n=b.n <;> simp [h2]
   by_cases h3:a.kids.length=b.kids.length
   ·have loop:=SQ (l:=a.kids) (m:=b.kids) h3 (P:=fun i=>Qy (run cfg) (.int .i64 i) a.enc b.enc) (y := .bool true) (n := .bool false)
     (by rw [Vi];simp [h3])
     (fun i h=>by
       have h':i<b.kids.length:=by omega
       rw [Vi];simp [h,h',I8 h,I8 h',Ty.Q9,Ty.ag,ih _ (z1q h) (Ty.Gg ha (z1q h)),N9 (show i<9223372036854775807 by omega)])
    simp only [h3] at loop ⊢;simp [loop]
    by_cases h4:a.kids=b.kids <;> simp [h4]
   ·have:a.kids≠b.kids:=fun h=>h3 (by rw [h])
    simp [zzq,h3,this]
theorem A54 (a b:List Ty) (hl:a.length<=lim) (ha:∀ t∈a,t.thin=true):(run cfg).p Xw [.list 3 (a.map Ty.enc), .list 3 (b.map Ty.enc)]=some (.bool (decide (a=b))):=by
 have hb:=big hl;refine (gW _ _).trans ?_;rw [kz];simp
 by_cases h3:a.length=b.length
 ·have loop:=SQ (l:=a) (m:=b) h3 (P:=fun i=>LJ (run cfg) (.list 3 (a.map Ty.enc)) (.list 3 (b.map Ty.enc)) (.int .i64 i)) (y := .bool true) (n := .bool false)
   (by rw [QC];simp [h3])
   (fun i h=>by
     have h':i<b.length:=by omega
     rw [QC];simp [h,h',I8 h,I8 h',Ty.Q9,Ty.ag,Fv _ (ha _ (z1q h)),N9 (show i<9223372036854775807 by omega)])
  simp only [h3] at loop ⊢;simp [loop]
  by_cases h4:a=b <;> simp [h4]
 ·have:a≠b:=fun h=>h3 (by rw [h])
  simp [zzq,h3,this]
theorem A7a (l:List Int) (hl:l.length<=lim) (n:Int):(run cfg).p nR [J9 l, .int .i64 n]=some (.bool (decide (n∈l))):=by
 have hb:=big hl;refine (A4v _ _).trans ?_;rw [A6z];have loop:=zQ (l:=l) (f:=fun x=>decide (x=n)) (P:=fun i=>Wl (run cfg) (J9 l) (.int .i64 n) (.int .i64 i))
  (by rw [bK];simp)
  (fun i h=>by
    rw [bK];simp [h,Hm h,N9 (show i<9223372036854775807 by omega)])
 refine loop.trans ?_
 congr 2
 rw [zIq];simp
theorem B0W:∀ (l:List Int) (sg:List D8),l.length+t.size<=lim->(run cfg).r ZT [(t.enc, .val),(J9 l, .own)] sg=some ([J9 (t.MS l)],sg):=by
 induction t using Ty.ind with
 | h t ih =>
   intro l sg hl;have hb:=Ty.B1o (show t.size<=lim by omega)
   have hB:=big hl;refine (xu _ _ _).trans ?_;have loop:∀ l:List Int,l.length+(t.kids.map Ty.size).sum<=lim->MB (run cfg) (J9 l) (.int .i64 0) t.enc sg=some ([J9 (t.kids.foldl (fun l k=>k.MS l) l)],sg) :=
    JU (l:=t.kids) (P:=fun i (a:List Int)=>MB (run cfg) (J9 a) (.int .i64 i) t.enc sg) (g:=fun a k=>k.MS a) (fin:=fun a=>some ([J9 a],sg))
     (I:=fun i a=>a.length+((t.kids.drop i).map Ty.size).sum<=lim)
     (fun a _=>by rw [Vk];simp)
     (fun i h a ha=>by
       rw [z2q h,zlq,zsq] at ha;have h1:=Ty.B3h t.kids[i] a;refine ⟨?_,by omega⟩
       rw [Vk];simp [h,I8 h,Ty.Q9,Ty.ag,ih _ (z1q h) a sg (by omega),N9 (show i<9223372036854775807 by omega)])
   have Aa:=Ty.size_eq t;rw [A1K,Ty.A7i];simp
   by_cases h6:t.kind=6
   ·simp [h6,A7a l (by omega) t.n]
    by_cases hn:t.n∈l
    ·simp [hn,RX,loop l (by omega)]
    ·simp [hn,RX]
     rw [show J9 l = .list 1 (l.map fun n => .int .i64 n) from rfl,Sn (by simp;omega)]
     simp;have:=loop (l++[t.n]) (by simp;omega)
     simpa [J9] using this
   ·simp [h6,RX,loop l (by omega)]
theorem B0V (ht:t.size<=lim):(run cfg).p nT [t.enc]=some (J9 t.vars):=by
 refine (xq _).trans ?_;rw [A1J];have:=B0W t [] [] (by simpa using ht)
 have e:J9 [] = .list 1 []:=rfl;rw [e] at this;simp [Ty.Q9,Ty.ag,this,Ty.vars]
theorem A9O:∀ n:Int,t.thin=true->0<=n->n<=1048576->∃ m:Int,(run cfg).p WW [t.enc, .int .i64 n]=some (.int .i64 m)/\0<=m/\m<=max (n+1) 601:=by
 induction t using Ty.ind with
 | h t ih =>
   intro n ht h0 h1;have hb:=t.D_ ht;have loop:∀ m:Int,0<=m->m<=1048577->∃ r:Int,KJ (run cfg) (.int .i64 m) (.int .i64 0) t.enc=some (.int .i64 r)/\0<=r/\r<=max m 601:=by
    have key:∀ (k i:Nat) (m:Int),i+k=t.kids.length->0<=m->m<=1048577->∃ r:Int,KJ (run cfg) (.int .i64 m) (.int .i64 i) t.enc=some (.int .i64 r)/\0<=r/\r<=max m 601:=by
     intro k
     induction k with
     | zero =>
       intro i m hi h0 h1;rw [UF];have:¬ i<t.kids.length:=by omega
       exact ⟨m,by simp [this],h0,by omega⟩
     | succ k ihk =>
       intro i m hi h0 h1;have h:i<t.kids.length:=by omega
       rw [UF]
       by_cases hm:m<=600
       ·obtain ⟨r,hr,zK,hr1⟩:=ih _ (z1q h) m (Ty.Gg ht (z1q h)) h0 (by omega)
        obtain ⟨s,hs,hs0,Ez⟩:=ihk (i+1) r (by omega) zK (by omega)
        push_cast at hs;exact ⟨s,by simp [h,hm,I8 h,Ty.Q9,Ty.ag,hr,N9 (show i<9223372036854775807 by omega),hs],hs0,by omega⟩
       ·exact ⟨m,by simp [h,hm],h0,by omega⟩
    exact fun m h0 h1=>key t.kids.length 0 m (by omega) h0 h1
   obtain ⟨r,hr,zK,hr1⟩:=loop (n+1) (by omega) (by omega)
   refine ⟨r,(sZ _ _).trans ?_,zK,hr1⟩;rw [wm];simp;rw [Nt (by omega) (by omega)]
   simpa using hr
theorem A7E (ht:t.thin=true):∃ b:Bool,(run cfg).p iZ [.list 3 [t.enc]]=some (.bool b):=by
 obtain ⟨m,h1,h2,h3⟩:=A9O t 0 ht (by omega) (by omega)
 refine ⟨decide (600<m),(sW _).trans ?_⟩;rw [wh,UE];have e0:F5 3 (.list 3 [t.enc]) (.int .i64 0)=some t.enc:=by simp [F5]
 simp [e0,Ty.Q9,Ty.ag,h1,Nt (show (-9223372036854775808:Int)<=0+1 by omega) (by omega)]
 rw [UE];simp
theorem B0Z:∀ n:Int,-9223372036854775000<=n->n<=1000->t.thin=true->(run cfg).p ZV [t.enc, .int .i64 n]=some (.bool (t.deep n)):=by
 induction t using Ty.ind with
 | h t ih =>
   intro n hn0 hn ht;have hb:=t.D_ ht;refine (xy _ _).trans ?_;rw [A1N,Ty.B7Q];simp
   by_cases h0:n<=0
   ·simp [h0]
   ·have loop:=zQ (l:=t.kids) (f:=fun k=>k.deep (n-1)) (P:=fun i=>RB (run cfg) (.int .i64 n) (.int .i64 i) t.enc)
     (by rw [Vo];simp)
     (fun i h=>by
       rw [Vo];simp [h,I8 h,Ty.Q9,Ty.ag,IU,U2 (show (-9223372036854775808:Int)<=n-1 by omega) (by omega),ih _ (z1q h) (n-1) (by omega) (by omega) (Ty.Gg ht (z1q h)),N9 (show i<9223372036854775807 by omega)])
    simp only [h0,decide_false,ygq];exact loop
variable (s:ByteArray)
theorem B06:(run cfg).p nY [.str s]=some (.bool (A22 s)):=by
 refine (yN _).trans ?_;rw [A12];have e:∀ l:List UInt8,(s=⟨l.toArray⟩) ↔ s.data.toList=l:=fun l=>by
  constructor
  ·rintro rfl;simp
  ·intro h;cases s;simp only [ByteArray.mk.injEq];exact Array.ext' (by simpa using h)
 simp only [JJ,E9,C8];simp only [e,A22,A5P,zMq,List.not_mem_nil,or_false];simp only [decide_eq_true_eq,C1Q,A81,y4q,Bool.decide_or,Bool.or_false]
variable (c:Int)
theorem A7T:(run cfg).p aV [.int .u8 c]=some (.bool (PU c)):=by
 refine (mR _).trans ?_;rw [sP];simp only [IR,Ao,M0,E9,H5,decide_eq_true_eq,PU,lowerB,wS]
 by_cases h1:97<=c <;> by_cases h2:c<=122 <;> by_cases h3:65<=c <;> by_cases h4:c<=90 <;> by_cases h5:48<=c <;> by_cases h6:c<=57 <;> by_cases h7:c=95 <;> simp [h1,h2,h3,h4,h5,h6,h7]
theorem fE:(run cfg).p QQ [.int .u8 c]=some (.bool (lowerB c)):=by
 refine (tF _).trans ?_;rw [wy];simp only [IR,Ao,E9,H5,decide_eq_true_eq,lowerB]
 by_cases h1:97<=c <;> simp [h1]
theorem A9P:(run cfg).p iq [.int .u8 c]=some (.bool (wS c)):=by
 refine (tC _).trans ?_;rw [ww];simp only [IR,Ao,E9,H5,decide_eq_true_eq,wS]
 by_cases h1:48<=c <;> simp [h1]
theorem B0T:(run cfg).p nQ [.int .u8 c]=some (.bool (PU c)):=by
 refine (xf _).trans ?_;rw [A1D];simp only [IR,Ao,M0,E9,H5,decide_eq_true_eq,fE,A9P,PU]
 by_cases h1:lowerB c=true <;> by_cases h2:wS c=true <;> by_cases h3:65<=c <;> by_cases h4:c<=90 <;> by_cases h7:c=95 <;> simp [h1,h2,h3,h4,h7]
theorem B1E {s:ByteArray} (h:s.size<=lim):(Az s).length<4294967297:=by rw [Md];exact big h
theorem A0a (hs:s.size<=lim):(run cfg).p Wj [.str s]=some (.bool (DW s)):=by
 have hb:=B1E hs;refine (uC _).trans ?_;rw [xQ];simp only [Ev,E9,H7,X8,H5,C8,decide_eq_true_eq,DW,<- Md]
 by_cases h1:((Az s).length:Int)<1
 ·have:¬ (1<=(Az s).length):=by omega
  simp [h1,this]
 ·by_cases h2:(32:Int)<((Az s).length:Int)
  ·have:¬ ((Az s).length<=32):=by omega
   simp [h1,h2,this]
  ·have h0:0<(Az s).length:=by omega
   have e0:=bF (s:=s) (k := .i64) h0;simp only [zhq,zmq,zaq] at e0;have loop:∀ (k i:Nat),i+k=(Az s).length->Oz (run cfg) (.str s) (.int .i64 i)=some (.bool (((Az s).drop i).all PU)):=by
    intro k
    induction k with
    | zero =>
      intro i hi;rw [UW];have:¬ i<(Az s).length:=by omega
      simp [<- Md,this,zbq (show (Az s).length<=i by omega)]
    | succ k ih =>
      intro i hi;have h:i<(Az s).length:=by omega
      rw [UW];have:=ih (i+1) (by omega)
      push_cast at this;have M4:(i:Int)<(s.size:Int):=by rw [<- Md];omega
      rw [z2q h,y5q];simp only [Ev,E9,H7,M4,decide_true,C8,if_true,bF h,A7T,M8,N9 (show i<9223372036854775807 by omega)]
      push_cast;rw [this];cases PU (Az s)[i] <;> rfl
   have l1:=loop ((Az s).length-1) 1 (by omega)
   simp only [Int.natCast_one,Int.ofNat_one,zaq] at l1;have g0:(Az s).getD 0 0=(Az s)[0]:=by simp [zfq,h0]
   have d0:Az s=(Az s)[0]::(Az s).drop 1:=by
    have:=z2q h0;simpa using this
   have a1:(1<=(Az s).length):=by omega
   have a2:((Az s).length<=32):=by omega
   have e0':Y4 (.str s) (.int .i64 0)=some (.int .u8 (Az s)[0]):=e0;simp only [h1,h2,if_false,e0',E9,H7,X8,H5,decide_eq_true_eq,B06,C8,g0,a1,a2,decide_true,zxq]
   by_cases h3:(Az s)[0]<97
   ·have:lowerB (Az s)[0]=false:=by simp [lowerB];omega
    simp [h3,this]
   ·by_cases h4:(122:Int)<(Az s)[0]
    ·have:lowerB (Az s)[0]=false:=by simp [lowerB];omega
     simp [h3,h4,this]
    ·have h5:lowerB (Az s)[0]=true:=by simp [lowerB];omega
     have h6:PU (Az s)[0]=true:=by simp [PU,h5]
     have h7:(Az s).all PU=((Az s).drop 1).all PU:=by
      conv=>lhs;rw [d0]
      simp [h6]
     cases hk:A22 s
     ·simp only [h3,h4,if_false,z0q,h5,h7,zxq,zrq,zDq]
      exact l1
     ·simp [h3,h4]
open Classical in
theorem B24 (hs:s.size<=4294967000):(run cfg).p vG [.str s]=some (.bool (A22 s)):=by
 have hb:(Az s).length<=4294967000:=by rw [Md];exact hs
 refine (A15 _).trans ?_;rw [A4j]
 let t:ByteArray:=⟨#[32]⟩++s++⟨#[32]⟩
 have tl:t.data.toList=32::s.data.toList++[32]:=by simp [t]
 have ts:t.size=s.size+2:=by
  have:=congrArg List.length tl;simp only [Array.length_toList,ztq,List.length_cons,ybq] at this;have e1:t.size=t.data.size:=rfl;have e2:s.size=s.data.size:=rfl;omega
 have search:∀ (k i:Nat),i+k=82->Nl (run cfg) (.str s) (.str t) (.int .i64 i)=some (.bool (decide (0<s.size/\∃ j,i<=j/\j+t.size<=81/\(Cv.drop j).take t.size=t.data.toList))):=by
  intro k
  induction k with
  | zero =>
    intro i hi;rw [YO];simp only [Ev,E9];rw [Nt (by omega) (by omega)]
    have:¬ ((i:Int)+(t.size:Int)<=81):=by omega
    have h2:¬ (0<s.size/\∃ j,i<=j/\j+t.size<=81/\(Cv.drop j).take t.size=t.data.toList):=by rintro ⟨-,j,h1,h2,-⟩;omega
    simp [this,h2]
  | succ k ih =>
    intro i hi;rw [YO];simp only [Ev,E9];rw [Nt (by omega) (by omega)]
    by_cases h1:(i:Int)+(t.size:Int)<=81
    ·have h1':i+t.size<=81:=by omega
     have nx:=ih (i+1) (by omega)
     simp only [Ao,h1,decide_true,E9,C8,if_true,X8,H5,decide_eq_true_eq];rw [show ((i+1:Nat):Int)=(i:Int)+1 by omega] at nx
     by_cases h0:(0:Int)<(s.size:Int)
     ·have dQ:0<s.size:=by omega
      have ext:∀ w:ByteArray,w.data.toList=Cv->kV (.str w) (some (.int .i64 (i:Int))) (some (.int .i64 ((i:Int)+(t.size:Int))))=some (.str (w.extract i (i+t.size))):=by
       intro w hw;have hwl:w.size=81:=by
        have:=congrArg List.length hw;rw [B5k] at this;simpa using this
       have e1:((i:Int)+(t.size:Int)).toNat=i+t.size:=by omega
       simp only [kV,bnd,E9,e1,show (0:Int)<=(i:Int)+(t.size:Int) by omega,if_true,zYq,y2q,hwl]
       rw [if_pos (by omega)]
      simp only [h0,if_true];rw [ext _ rfl];simp only [E9,JJ,C8,decide_eq_true_eq];rw [N9 (by omega)]
      simp only [E9];rw [show ((i+1:Nat):Int)=(i:Int)+1 by omega,nx]
      have exl:∀ w:ByteArray,w.data.toList=Cv->((w.extract i (i+t.size)=t) ↔ (Cv.drop i).take t.size=t.data.toList):=by
       intro w hw;have e:(w.extract i (i+t.size)).data.toList=(Cv.drop i).take t.size:=by
        rw [ByteArray.data_extract,Array.toList_extract,hw,List.extract_eq_take_drop]
        congr 1
        omega
       rw [<- e];constructor
       ·intro h;rw [h]
       ·intro h
        cases hx:w.extract i (i+t.size);rw [hx] at h;cases ht:t;rw [ht] at h;simp only [ByteArray.mk.injEq];exact Array.ext' h
      by_cases h2:(Cv.drop i).take t.size=t.data.toList
      ·rw [if_pos ((exl _ rfl).2 h2)]
       have:(0<s.size/\∃ j,i<=j/\j+t.size<=81/\(Cv.drop j).take t.size=t.data.toList):=⟨dQ,i,zgq _,h1',h2⟩;simp [this]
      ·rw [if_neg (fun h=>h2 ((exl _ rfl).1 h))]
       congr 2
       rw [zIq];simp only [decide_eq_true_eq];constructor
       ·rintro ⟨a,j,b,c⟩;exact ⟨a,j,by omega,c⟩
       ·rintro ⟨a,j,b,c,d⟩
        refine ⟨a,j, ?_,c,d⟩;rcases Nat.lt_or_ge i j with h | h
        ·exact h
        ·exact absurd (by rw [show i=j by omega];exact d) h2
     ·have:¬ (0<s.size/\∃ j,i<=j/\j+t.size<=81/\(Cv.drop j).take t.size=t.data.toList):=fun h=>h0 (by have:=h.1;omega)
      have C19:¬ (0<s.size/\∃ j,i+1<=j/\j+t.size<=81/\(Cv.drop j).take t.size=t.data.toList):=fun h=>h0 (by have:=h.1;omega)
      simp only [h0,if_false];rw [N9 (by omega)]
      simp only [E9];rw [show ((i+1:Nat):Int)=(i:Int)+1 by omega,nx]
      simp [this,C19]
    ·have h2:¬ (0<s.size/\∃ j,i<=j/\j+t.size<=81/\(Cv.drop j).take t.size=t.data.toList):=by rintro ⟨-,j,h3,h4,-⟩;omega
     simp [h1,h2]
 have fin:(s.data.toList.all A24=true/\0<s.size/\∃ j,0<=j/\j+t.size<=81/\(Cv.drop j).take t.size=t.data.toList) ↔ s.data.toList∈A5P:=by
  rw [<- B5j];have e2:s.data.toList.length=s.size:=by simp
  rw [e2,ts,tl];simp
 have low:∀ b:UInt8,lowerB (b.toNat:Int)=A24 b:=by
  intro b;simp only [lowerB,A24,UInt8.le_iff_toNat_le];rw [zIq];simp only [zdq,decide_eq_true_eq];have h1:(97:UInt8).toNat=97:=rfl;have h2:(122:UInt8).toNat=122:=rfl;rw [h1,h2];omega
 have loop:∀ (k i:Nat),i+k=(Az s).length->Te (run cfg) (.str s) (.int .i64 i)=some (.bool (decide (((Az s).drop i).all lowerB=true/\0<s.size/\∃ j,0<=j/\j+t.size<=81/\(Cv.drop j).take t.size=t.data.toList))):=by
  intro k
  induction k with
  | zero =>
    intro i hi;rw [YN];have M4:¬ (i:Int)<(s.size:Int):=by rw [<- Md];omega
    have e1:A8 .add (.str ⟨#[32]⟩) (.str s)=some (.str (⟨#[32]⟩++s)):=by
     simp only [A8,kW];rw [if_pos];have:(⟨#[32]⟩:ByteArray).size=1:=rfl;unfold lim;omega
    have e2:A8 .add (.str (⟨#[32]⟩++s)) (.str ⟨#[32]⟩)=some (.str t):=by
     simp only [A8,kW];rw [if_pos];have h1:(⟨#[32]⟩:ByteArray).size=1:=rfl;have h2:(⟨#[32]⟩++s:ByteArray).size=s.size+1:=by
      have:=ByteArray.size_append (a:=⟨#[32]⟩) (b:=s);omega
     unfold lim;omega
    have:=search 82 0 rfl;simp only [zhq,zmq,zaq] at this;simp only [Ev,E9,H7,M4,decide_false,C8,z0q,if_false,e1,e2,zbq (show (Az s).length<=i by omega),List.all_nil,true_and]
    exact this
  | succ k ih =>
    intro i hi;have h:i<(Az s).length:=by omega
    rw [YN];have:=ih (i+1) (by omega)
    push_cast at this;have M4:(i:Int)<(s.size:Int):=by rw [<- Md];omega
    rw [z2q h,y5q];simp only [Ev,E9,H7,M4,decide_true,C8,if_true,bF h,fE,M8,N9 (show i<9223372036854775807 by omega)]
    push_cast;rw [this];cases lowerB (Az s)[i] <;> simp
 have l0:=loop (Az s).length 0 (by omega)
 simp only [zhq,zmq,zaq] at l0;have e3:(Az s).all lowerB=s.data.toList.all A24:=by
  simp only [Az,List.all_map]
  congr 1
  funext b
  exact low b
 refine l0.trans ?_;rw [zcq,e3];simp only [fin,A22]
theorem XE (hs:s.size<=4294967000):(run cfg).p Gv [.str s]=some (.bool (DW s)):=by
 have hb:=B1E (s:=s) (by unfold lim;omega)
 refine (xe _).trans ?_;rw [A1C];have h32:A8 .gtr (.int .i64 (s.size:Int)) (.int .i64 32)=some (.bool (decide (32<s.size))):=by
  rw [X8];congr 2;rw [decide_eq_decide];omega
 simp only [Ev,E9,H7,h32,H5,C8,decide_eq_true_eq,DW]
 by_cases h1:(s.size:Int)<1
 ·have:¬ (1<=s.size):=by omega
  simp [h1,this]
 ·by_cases h2:32<s.size
  ·have:¬ (s.size<=32):=by omega
   simp [h1,h2,this]
  ·have h0:0<(Az s).length:=by rw [Md];omega
   have loop:∀ (k i:Nat),i+k=(Az s).length->Qx (run cfg) (.str s) (.int .i64 i)=some (.bool (((Az s).drop i).all PU && !A22 s)):=by
    intro k
    induction k with
    | zero =>
      intro i hi;rw [Vh];have M4:¬ (i:Int)<(s.size:Int):=by rw [<- Md];omega
      simp [M4,zbq (show (Az s).length<=i by omega),B24 s hs]
    | succ k ih =>
      intro i hi;have h:i<(Az s).length:=by omega
      rw [Vh];have:=ih (i+1) (by omega)
      push_cast at this;have M4:(i:Int)<(s.size:Int):=by rw [<- Md];omega
      rw [z2q h,y5q];simp only [Ev,E9,H7,M4,decide_true,C8,if_true,bF h,B0T,M8,N9 (show i<9223372036854775807 by omega)]
      push_cast;rw [this];cases PU (Az s)[i] <;> rfl
   have l0:=loop (Az s).length 0 (by omega)
   simp only [zhq,zmq,zaq,zcq] at l0;have g0:(Az s).getD 0 0=(Az s)[0]:=by simp [zfq,h0]
   have e0':Y4 (.str s) (.int .i64 0)=some (.int .u8 (Az s)[0]):=bF (s:=s) (k := .i64) h0;have a1:(1<=s.size):=by omega
   have a2:(s.size<=32):=by omega
   simp only [h1,h2,if_false,e0',E9,fE,M8,C8,g0,a1,a2,decide_true,zxq,l0];cases lowerB (Az s)[0] <;> simp
theorem Ba:(.str ⟨#[]⟩:DV) = .str O0:=rfl
variable (p:D5)
theorem A59 (hp:p.texts):(run cfg).p Xz [p.enc]=some (.bool p.one):=by
 obtain ⟨hn,hs⟩:=hp;have h24:∀ (t4:Int) (a b c g:DV) (nm:ByteArray) (n:Int) (s:ByteArray),Z7 (run cfg) (.int .i64 t4) p.enc a b c (.str nm) (.int .i64 n) (.str s) g =
  some (.bool (decide ((p.kids.length:Int)=t4) && decide (nm=p.name) && decide (n=p.n) && decide (s=p.s))):=by
  intro t4 a b c g nm n s;rw [ZC];simp only [D5.Hd,D5.CU,D5.KD,D5.Bf,K5,z3q,E9,M0,JJ,H5,decide_eq_true_eq]
  by_cases h1:(p.kids.length:Int)=t4 <;> by_cases h2:nm=p.name <;> by_cases h3:n=p.n <;> simp [h1,h2,h3]
 refine (gp _).trans ?_;rw [lS];have Cz:A8 .gtr (.int .i64 (p.s.size:Int)) (.int .i64 200)=some (.bool (decide (200<p.s.size))):=by
  rw [X8];congr 2;rw [decide_eq_decide];omega
 simp only [PP,D6,D5.pj,AJ,Uo,jY,M0,Ap,E9,C8,H5,A0a p.name (by unfold lim;omega),M8,Ev,Cz,h24,Ba]
 unfold D5.one
 by_cases k1:p.kind=1
 ·simp [k1,eq_comm]
 by_cases k6:p.kind=6
 ·simp [k6,eq_comm]
 by_cases k8:p.kind=8
 ·simp [k8,eq_comm]
 by_cases k2:p.kind=2
 ·cases hnm:DW p.name <;> simp [k2,hnm,eq_comm]
 by_cases k3:p.kind=3
 ·simp [k3,eq_comm]
 by_cases k4:p.kind=4
 ·by_cases n0:p.n=0
  ·simp [k4,n0,eq_comm]
  ·by_cases n1:p.n=1 <;> simp [k4,n0,n1,eq_comm]
 by_cases k5:p.kind=5
 ·by_cases h:200<p.s.size
  ·have:¬ p.s.size<=200:=by omega
   simp [k5,h,this]
  ·have:p.s.size<=200:=by omega
   simp [k5,h,this,eq_comm]
 have h2:decide (2=(p.kids.length:Int))=decide (2=p.kids.length):=by rw [decide_eq_decide];omega
 by_cases k7:p.kind=7
 ·simp [k7,eq_comm,h2]
 by_cases k9:p.kind=9
 ·simp [k9,eq_comm,h2]
 simp [k1,k2,k3,k4,k5,k6,k7,k8,k9]
theorem B25:p.thin=true->p.txt->(run cfg).p fO [p.enc]=some (.bool p.pat):=by
 induction p using D5.ind with
 | h p ih =>
   intro ht hx;have hb:=p.D_ ht;obtain ⟨hn,hs⟩:=hx p p.B6A;have loop:MC (run cfg) (.int .i64 p.kids.length) (.int .i64 0) p.enc=some (.bool (p.kids.all D5.pat)) :=
    iJ (l:=p.kids) (f:=D5.pat) (P:=fun i=>MC (run cfg) (.int .i64 p.kids.length) (.int .i64 i) p.enc)
     (by rw [Vn];simp)
     (fun i h=>by
       rw [Vn];simp [h,I8 h,D5.Q9,D5.ag,ih _ (z1q h) (D5.Gg ht (z1q h)) (D5.B8X hx (z1q h)),N9 (show i<9223372036854775807 by omega)]
       cases p.kids[i].pat <;> rfl)
   have h25:∀ (t4:Int) (a:DV) (nm:ByteArray) (n:Int) (s:ByteArray),Ci (run cfg) (.int .i64 t4) p.enc a (.str nm) (.int .i64 n) (.str s) =
    some (.bool ((decide ((p.kids.length:Int)=t4) && decide (p.name=nm) && decide (p.n=n) && decide (p.s=s)) && p.kids.all D5.pat)):=by
    intro t4 a nm n s;rw [rQ];simp only [D5.Hd,D5.CU,D5.KD,D5.Bf,K5,z3q,E9,Ap,wQ,H5,C8,decide_eq_true_eq]
    by_cases h1:(p.kids.length:Int)=t4 <;> by_cases h2:p.name=nm <;> by_cases h3:p.n=n <;> by_cases h4:p.s=s <;> simp [h1,h2,h3,h4]
    rw [<- h1];rw [loop]
   refine (A17 _).trans ?_;rw [A4l];have Cz:A8 .gtr (.int .i64 (p.s.size:Int)) (.int .i64 200)=some (.bool (decide (200<p.s.size))):=by
    rw [X8];congr 2;rw [decide_eq_decide];omega
   simp only [PP,D6,D5.pj,AJ,Uo,jY,M0,Ap,H7,X8,E9,C8,H5,XE p.name hn,M8,Ev,h25,Ba];rw [D5.eT];unfold D5.one
   by_cases k1:p.kind=1
   ·simp [k1]
   by_cases k6:p.kind=6
   ·simp [k6]
   by_cases k8:p.kind=8
   ·simp [k8]
   by_cases k2:p.kind=2
   ·cases hnm:DW p.name <;> simp [k2,hnm]
   by_cases k3:p.kind=3
   ·simp [k3]
   by_cases k4:p.kind=4
   ·by_cases n0:p.n<0
    ·have h1:¬ (p.n=0\/p.n=1):=by omega
     simp [k4,n0,h1]
    ·by_cases n1:1<p.n
     ·have h1:¬ (p.n=0\/p.n=1):=by omega
      simp [k4,n0,n1,h1]
     ·have h1:(p.n=0\/p.n=1):=by omega
      simp [k4,n0,n1,h1]
   by_cases k5:p.kind=5
   ·by_cases h:(200:Int)<(p.s.size:Int)
    ·have:¬ p.s.size<=200:=by omega
     simp [k5,h,this]
    ·have:p.s.size<=200:=by omega
     simp [k5,h,this]
   by_cases k7:p.kind=7
   ·simp [k7]
    have:((p.kids.length:Int)=2) ↔ (p.kids.length=2):=by omega
    simp [this]
   by_cases k9:p.kind=9
   ·simp [k9]
    have:((p.kids.length:Int)=2) ↔ (p.kids.length=2):=by omega
    simp [this]
   simp [k1,k2,k3,k4,k5,k6,k7,k8,k9]
theorem A9Q (t:D5):∀ (l:List ByteArray) (sg:List D8),l.length+t.size<=lim->(run cfg).r WY [(t.enc, .val),(J7 l, .own)] sg=some ([J7 (t.Cc l)],sg):=by
 induction t using D5.ind with
 | h t ih =>
   intro l sg hl;have hb:=D5.D_ _ (D5.Dk (show t.size<=lim by omega))
   have hB:=big hl;refine (tK _ _ _).trans ?_;have loop:∀ l:List ByteArray,l.length+(t.kids.map D5.size).sum<=lim->Hy (run cfg) (J7 l) (.int .i64 0) t.enc sg=some ([J7 (t.kids.foldl (fun l k=>k.Cc l) l)],sg) :=
    JU (l:=t.kids) (P:=fun i (a:List ByteArray)=>Hy (run cfg) (J7 a) (.int .i64 i) t.enc sg) (g:=fun a k=>k.Cc a) (fin:=fun a=>some ([J7 a],sg))
     (I:=fun i a=>a.length+((t.kids.drop i).map D5.size).sum<=lim)
     (fun a _=>by rw [UK];simp)
     (fun i h a ha=>by
       rw [z2q h,zlq,zsq] at ha;have h1:=D5.Ql t.kids[i] a;refine ⟨?_,by omega⟩
       rw [UK];simp [h,I8 h,D5.Q9,D5.ag,ih _ (z1q h) a sg (by omega),N9 (show i<9223372036854775807 by omega)])
   have Aa:=D5.size_eq t;rw [xB,D5.Ll];simp
   by_cases h6:t.kind=2
   ·simp [h6]
    rw [show J7 l = .list 1 (l.map fun n => .str n) from rfl,Sn (by simp;omega)]
    have:=loop (l++[t.name]) (by simp;omega)
    simpa [J7] using this
   ·simp [h6,loop l (by omega)]
theorem zy (t:D5) (ht:t.size<=lim):(run cfg).p WX [t.enc]=some (J7 t.names):=by
 refine (tJ _).trans ?_;rw [xA];have:=A9Q t [] [] (by simpa using ht)
 have e:J7 [] = .list 1 []:=rfl;rw [e] at this;simp [D5.Q9,D5.ag,this,D5.names]
variable (l:List ByteArray) (n:ByteArray)
def SK:Bool:=l.any fun x=>decide (x=n)
theorem dU {l:List ByteArray} {n:ByteArray}:SK l n=true ↔ n∈l:=by simp [SK]
theorem Zy (hl:l.length<=lim) (n:ByteArray):(run cfg).p Sb [J7 l, .str n]=some (.bool (SK l n)):=by
 have hb:=big hl;refine (A16 _ _).trans ?_;rw [A4k];have loop:=zQ (l:=l) (f:=fun x=>decide (x=n)) (P:=fun i=>Tg (run cfg) (J7 l) (.str n) (.int .i64 i))
  (by rw [YP];simp)
  (fun i h=>by
    rw [YP];simp [h,Ku h,N9 (show i<9223372036854775807 by omega)])
 exact loop
variable {α : Type}
theorem A4g {e : α -> DV} {l:List α} {i:Nat} (h:i<=l.length) (sz:Nat):CP sz (.list sz (l.map e)) none (some (.int .i64 (i:Int)))=some (.list sz ((l.take i).map e)):=by
 simp [CP,bnd,h,y6q]
theorem B2B [DecidableEq α] (l:List α):(∀ (i:Nat) (h:i<l.length),l[i]∉l.take i) ↔ l.Nodup:=by
 constructor
 ·intro h
  rw [zKq,zNq];intro i j hi hj MN he;exact h j hj (by rw [<- he];exact zBq.2 ⟨i,by omega,rfl⟩)
 ·intro h i hi hm
  obtain ⟨j,hj,he⟩:=zBq.1 hm;rw [zKq,zNq] at h;exact h j i (by omega) hi (by omega) he
open Classical in
theorem A5n (ht:p.size<=lim) (hx:p.txt):(run cfg).p VS [p.enc]=some (.bool p.right):=by
 refine (bZ _).trans ?_;rw [gI];have hnl:p.names.length<=lim:=by have:=D5.Ql p [];simp at this;unfold D5.names;omega
 have hb:=big hnl;simp [D5.Q9,D5.ag,B25 p (D5.Dk ht) hx,zy p ht,D5.right];cases hp:p.pat
 ·simp
 ·simp
  have loop:∀ (k i:Nat),i+k=p.names.length->Jw (run cfg) (J7 p.names) (.int .i64 i)=some (.bool (decide (∀ j (h:j<p.names.length),i<=j->p.names[j]∉p.names.take j))):=by
   intro k
   induction k with
   | zero =>
     intro i hi;rw [Nz];have:¬ i<p.names.length:=by omega
     have h2:∀ j (h:j<p.names.length),i<=j->p.names[j]∉p.names.take j:=fun j h h'=>by omega
     simp [this];exact h2
   | succ k ih =>
     intro i hi;have h:i<p.names.length:=by omega
     have nx:=ih (i+1) (by omega)
     push_cast at nx;rw [Nz];have sl:CP 1 (J7 p.names) none (some (.int .i64 (i:Int)))=some (J7 (p.names.take i)):=A4g (by omega) 1
     simp [h,sl,Ku h,Zy (p.names.take i) (by simp;omega),N9 (show i<9223372036854775807 by omega),nx]
     by_cases hm:p.names[i]∈p.names.take i
     ·simp only [dU.2 hm,if_true,sF]
      congr 2
      symm
      rw [decide_eq_false_iff_not];exact fun hh=>hh i h (zgq _) hm
     ·have Ps:¬ (SK (p.names.take i) p.names[i]=true):=fun h=>hm (dU.1 h)
      have C2X:SK (p.names.take i) p.names[i]=false:=by simpa using Ps
      simp only [C2X,z0q,if_false]
      congr 2
      rw [decide_eq_decide];constructor
      ·intro hh j hj MN
       rcases Nat.lt_or_ge i j with h1 | h1
       ·exact hh j hj h1
       ·have:i=j:=by omega
        subst this;exact hm
      ·intro hh j hj MN
       exact hh j hj (by omega)
  have l0:=loop p.names.length 0 (by omega)
  simp only [zhq,zmq,zaq] at l0;rw [l0]
  congr 2
  rw [decide_eq_decide,<- B2B];simp
variable (es:List (DV × DV))
def A8m (s:ByteArray):DV:=(AO es (.str s)).getD (.int .i64 0)
def bD (a b c e:D8) (n:Int) (es:List (DV × DV)):List D8:=[a, .box [(.int .i64 n, .val)], .map true es, .box [(.undef, .map 2)],e]
theorem B3H (t0 t6:DV) (a b c e:D8) (n:Int) (es:List (DV × DV)):AU (run cfg) t0 t6 .ret (bD a b c e n es)=some (.int .i64 n):=by
 rw [NM];rfl
theorem B7M (t0 t6:DV) (a b c e:D8) (n:Int) (es:List (DV × DV)):AU (run cfg) t0 t6 .normal (bD a b c e n es)=some (.int .i64 0):=by
 rw [KY];rfl
theorem A6u (t0 t6:DV) (a b c e:D8):∀ (ps:List D5) (pre:List ByteArray) (es:List (DV × DV)),(∀ q∈ps,q.texts)->pre.Nodup->(∀ s,A8m es s = .int .i64 (if SK pre s=true then 1 else 0)) ->
 EB (run cfg) t0 t6 (ps.map D5.enc) (bD a b c e 0 es)=some (.int .i64 (if ps.all D5.one=true/\(pre++ps.flatMap Yg).Nodup then 0 else 1))
 | [],pre,es,_,hn,_=>by
   rw [zAq,QU,B7M];simp [hn]
 | q::ps,pre,es,hx,hn,hc=>by
   rw [zlq,Ph,Sr];have hq:=hx q (zFq ..);simp only [PP,D6,D5.pj,D5.Q9,D5.ag,A59 q hq,E9,M8,H5,M0];have sg1:M5 (bD a b c e 0 es) 1=some [(.int .i64 0, .val)]:=rfl;have sg3:M5 (bD a b c e 0 es) 3=some [(.undef, .map 2)]:=rfl;have set1:(bD a b c e 0 es).set 1 (.box ([((.int .i64 0:DV),Meta.val)].set 0 (.int .i64 1, .val)))=bD a b c e 1 es:=rfl;have g0:[((.int .i64 0:DV),Meta.val)][0]?=some (.int .i64 0, .val):=rfl;have cm:Sk [((.undef:DV),Meta.map 2)] 0=some 2:=rfl;have sm:Av (bD a b c e 0 es) 2=some (true,es):=rfl;cases h1:q.one
   ·simp only [zrq,if_true,sg1,E9,g0,set1,B3H]
    simp [h1]
   ·simp only [z9q,z0q,if_false]
    have rest:∀ (pre':List ByteArray) (es':List (DV × DV)),pre'.Nodup->(∀ s,A8m es' s = .int .i64 (if SK pre' s=true then 1 else 0)) ->
     EB (run cfg) t0 t6 (ps.map D5.enc) (bD a b c e 0 es')=some (.int .i64 (if ps.all D5.one=true/\(pre'++ps.flatMap Yg).Nodup then 0 else 1)) :=
     fun pre' es' h h'=>A6u t0 t6 a b c e ps pre' es' (fun x VN=>hx x (zWq _ VN)) h h'
    rw [XZ];simp only [D5.Y3,D5.CU,M0,E9,C8,decide_eq_true_eq]
    by_cases h2:q.kind=2
    ·have hcq:=hc q.name
     unfold A8m at hcq;have sm':(bD a b c e 0 es).set 2 (.map true (BC es (.str q.name) (.int .i64 1)))=bD a b c e 0 (BC es (.str q.name) (.int .i64 1)):=rfl;simp only [h2,if_true,sg3,E9,cm,Xi,zDq,D6,sm,BEq.rfl,hcq,X8,C8,decide_eq_true_eq]
     by_cases dR:SK pre q.name=true
     ·have h3:=dU.1 dR
      simp only [dR,if_true,show (0:Int)<1 by omega,decide_true,sg1,E9,g0,set1,B3H]
      have:¬ (pre++(q::ps).flatMap Yg).Nodup:=by
       simp only [zQq,Yg,h2,if_true,List.singleton_append,y7q];rintro ⟨-,-,h⟩;exact h q.name h3 q.name (zFq ..) rfl
      rw [if_neg (fun h=>this h.2)]
     ·have h3:q.name∉pre:=fun h=>dR (dU.2 h)
      simp only [dR,if_false,show ¬ (0:Int)<0 by omega,decide_false,z0q]
      rw [Nt (by omega) (by omega)]
      simp only [E9,Int.zero_add];rw [sm',rest (pre++[q.name]) _ (by rw [y7q];refine ⟨hn,by simp, ?_⟩;rintro x VN y hy rfl;simp at hy;exact h3 (hy ▸ VN)) ?_]
      ·simp [zQq,Yg,h2,h1]
      ·intro s
       unfold A8m;rw [A85];have:=hc s;unfold A8m at this
       by_cases h4:q.name=s
       ·have:SK (pre++[q.name]) s=true:=dU.2 (by simp [h4])
        rw [if_pos h4,if_pos this];rfl
       ·have e:SK (pre++[q.name]) s=SK pre s:=by simp [SK,h4]
        simp only [if_neg h4,e];exact this
    ·simp only [h2,if_false]
     rw [rest pre es hn hc];simp [zQq,Yg,h2,h1]
theorem A3j (ht:p.thin=true) (hx:p.txt):(run cfg).p TY [p.enc]=some (.int .i64 (if p.right=true then 0 else 1)):=by
 refine (ZH _).trans ?_;rw [bU];simp only [PP,D6,D5.pj,D5.Q9,D5.ag];rw [VJ];obtain ⟨n,hn⟩:=B5Q p ht;rw [D5.H8] at hn;simp only [M5,znq,zkq,E9,BQ,D6,A2W hn];have:=A6u p.enc p.enc (.box [(.int .i64 p.kind, .val),(.int .i64 p.lo, .val),(.int .i64 p.hi, .val),(.str p.name, .val),(.int .i64 p.n, .val),(.str p.s, .val),(.list 7 (p.kids.map D5.enc), .val)])
  (.arr 1 []) (.arr 1 []) (.arr 1 []) p.subs [] [] (fun q hq=>hx q hq) (by simp) (fun s=>rfl)
 refine this.trans ?_
 congr 2
 have e:p.right=true ↔ (p.subs.all D5.one=true/\(([]:List ByteArray)++p.subs.flatMap Yg).Nodup):=by
  unfold D5.right D5.names;rw [D5.B6r,D5.eF];simp
 by_cases h:p.right=true
 ·rw [if_pos h,if_pos (e.1 h)]
 ·rw [if_neg h,if_neg (fun h'=>h (e.2 h'))]
@[simp] theorem B5D (a b c d:Int) (k:IntKind):Vd [.int, .int] (.agg [.int k a, .int k b]) (.agg [.int k c, .int k d])=some (decide (a=c) && decide (b=d)):=by
  simp only [Vd,DN,wR,if_true,E9]
  by_cases h:a=c <;> by_cases h':b=d <;> simp [h,h']
theorem dw (a b:Bool):(if a=true then DV.bool b else DV.bool false)=DV.bool (a && b):=by cases a <;> rfl
theorem B6a (a b:Bool):(if a=true then some (DV.bool b) else some (DV.bool false))=some (DV.bool (a && b)):=by cases a <;> rfl
theorem A55 (a:D5):a.thin=true->∀ b:D5,(run cfg).p Qu [a.enc,b.enc]=some (.bool (decide (a.bare=b.bare))):=by
 induction a using D5.ind with
 | h a ih =>
   intro ha b;have hb:=a.D_ ha;refine (gX _ _).trans ?_;rw [k_];simp
   by_cases h1:a.kind=b.kind <;> simp [h1,D5.FU]
   by_cases h2:a.name=b.name <;> simp [h2]
   by_cases h3:a.n=b.n <;> simp [h3]
   by_cases h4:a.s=b.s <;> simp [h4]
   by_cases h5:a.kids.length=b.kids.length
   ·have loop:=Xl (l:=a.kids.map D5.bare) (m:=b.kids.map D5.bare) (by simpa using h5) (P:=fun i=>LM (run cfg) (.int .i64 i) a.enc b.enc)
     (by rw [QD];simp [h5])
     (fun i h=>by
       have h:i<a.kids.length:=by simpa using h
       have h':i<b.kids.length:=by omega
       rw [QD];simp [h,h',I8 h,I8 h',D5.Q9,D5.ag,ih _ (z1q h) (D5.Gg ha (z1q h)),N9 (show i<9223372036854775807 by omega)])
    simp only [z3q,h5] at loop ⊢;simp [loop]
   ·have:a.kids.map D5.bare≠b.kids.map D5.bare:=fun h=>h5 (by have:=congrArg List.length h;simpa using this)
    simp [zzq,h5,this]
theorem A9R (a:D5):a.thin=true->∀ b:D5,a.bare=b.bare->(run cfg).p WZ [a.enc,b.enc]=some (.bool (decide (a=b))):=by
 induction a using D5.ind with
 | h a ih =>
   intro ha b he;have hb:=a.D_ ha;rw [D5.FU] at he;simp at he;obtain ⟨e1,e2,e3,e4,e5⟩:=he;have h5:a.kids.length=b.kids.length:=by have:=congrArg List.length e5;simpa using this
   refine (tL _ _).trans ?_;rw [xC];simp [D5.FU,e1,e2,e3,e4]
   by_cases h1:a.lo=b.lo <;> simp [h1]
   by_cases h2:a.hi=b.hi <;> simp [h2]
   have loop:=Xl (l:=a.kids) (m:=b.kids) h5 (P:=fun i=>Ot (run cfg) (.int .i64 i) a.enc b.enc)
    (by rw [UL];simp [h5])
    (fun i h=>by
      have h':i<b.kids.length:=by omega
      have e6:a.kids[i].bare=b.kids[i].bare:=by
       have:(a.kids.map D5.bare)[i]'(by simpa using h)=(b.kids.map D5.bare)[i]'(by simpa using h'):=by simp only [e5]
       simpa using this
      rw [UL];simp [h,h',I8 h,I8 h',D5.Q9,D5.ag,ih _ (z1q h) (D5.Gg ha (z1q h)) _ e6,N9 (show i<9223372036854775807 by omega)])
   simp [loop]
theorem B0Y (a:Ex):a.fit->∀ b:Ex,(run cfg).p ZU [a.enc,b.enc]=some (.bool (decide (a.bare=b.bare))):=by
 induction a using Ex.ind with
 | h a ih =>
   intro ha b;have hk:=big (z7q ha.one.kids);have hp:=big (z7q ha.one.H6);refine (xx _ _).trans ?_;rw [A1M];simp
   by_cases h1:a.kind=b.kind <;> simp [h1,Ex.FU]
   by_cases h2:a.name=b.name <;> simp [h2]
   by_cases h3:a.arg=b.arg <;> simp [h3]
   by_cases h4:a.n=b.n <;> simp [h4]
   by_cases h6:a.s=b.s <;> simp [h6]
   by_cases h7:a.op=b.op <;> simp [h7]
   by_cases h8:a.H6.length=b.H6.length
   ·by_cases h5:a.kids.length=b.kids.length
    ·have loop:=Xl (l:=a.kids.map Ex.bare) (m:=b.kids.map Ex.bare) (by simpa using h5) (P:=fun i=>Oq (run cfg) (.int .i64 i) a.enc b.enc)
      (by rw [UJ];simp [h5])
      (fun i h=>by
        have h:i<a.kids.length:=by simpa using h
        have h':i<b.kids.length:=by omega
        rw [UJ];simp [h,h',I8 h,I8 h',Ex.Q9,Ex.ag,ih _ (z1q h) (ha.kid (z1q h)),N9 (show i<9223372036854775807 by omega)])
     have B2x:=SQ (l:=a.H6.map D5.bare) (m:=b.H6.map D5.bare) (by simpa using h8) (P:=fun i=>RA (run cfg) (.int .i64 i) a.enc b.enc) (y := .bool (decide (a.kids.map Ex.bare=b.kids.map Ex.bare))) (n := .bool false)
      (by rw [Vm];simp [h8,loop])
      (fun i h=>by
        have h:i<a.H6.length:=by simpa using h
        have h':i<b.H6.length:=by omega
        rw [Vm];simp [h,h',I8 h,I8 h',D5.Q9,D5.ag,A55 _ (D5.oL (ha.one.pat _ (z1q h))),N9 (show i<9223372036854775807 by omega)])
     simp only [h5,h8];simp [rP,Ty.Q9,Ty.ag,Fv _ ha.one.a,Fv _ ha.one.b]
     by_cases h9:a.a=b.a <;> simp [h9]
     by_cases Uk:a.b=b.b <;> simp [Uk,B2x]
     by_cases Qf:a.H6.map D5.bare=b.H6.map D5.bare <;> simp [Qf]
    ·have:a.kids.map Ex.bare≠b.kids.map Ex.bare:=fun h=>h5 (by have:=congrArg List.length h;simpa using this)
     simp [zzq,h5,h8,this]
   ·have:a.H6.map D5.bare≠b.H6.map D5.bare:=fun h=>h8 (by have:=congrArg List.length h;simpa using this)
    simp [zzq,h8,this]
theorem A7H (a:Ex):a.fit->∀ b:Ex,(run cfg).p TL [a.enc,b.enc]=some (.bool (decide (a=b))):=by
 induction a using Ex.ind with
 | h a ih =>
   intro ha b;have hk:=big (z7q ha.one.kids);have hp:=big (z7q ha.one.H6);refine (lu _ _).trans ?_;rw [rO];simp [Ex.Q9,Ex.ag,B0Y a ha]
   by_cases he:a.bare=b.bare
   ·rw [if_pos he]
    rw [Ex.FU] at he;simp at he;obtain ⟨e1,e2,e3,e4,e5,e6,e7,e8,e9,e10⟩:=he;have h5:a.kids.length=b.kids.length:=by have:=congrArg List.length e10;simpa using this
    have h8:a.H6.length=b.H6.length:=by have:=congrArg List.length e9;simpa using this
    have loop:=Xl (l:=a.kids) (m:=b.kids) h5 (P:=fun i=>NC (run cfg) (.int .i64 i) a.enc b.enc)
     (by rw [Rq];simp [h5])
     (fun i h=>by
       have h':i<b.kids.length:=by omega
       rw [Rq];simp [h,h',I8 h,I8 h',Ex.Q9,Ex.ag,ih _ (z1q h) (ha.kid (z1q h)),N9 (show i<9223372036854775807 by omega)])
    have B2x:=SQ (l:=a.H6) (m:=b.H6) h8 (P:=fun i=>NB (run cfg) (.int .i64 i) a.enc b.enc) (y := .bool (decide (a.kids=b.kids))) (n := .bool false)
     (by rw [Ro];simp [h8,loop])
     (fun i h=>by
       have h':i<b.H6.length:=by omega
       have e11:a.H6[i].bare=b.H6[i].bare:=by
        have:(a.H6.map D5.bare)[i]'(by simpa using h)=(b.H6.map D5.bare)[i]'(by simpa using h'):=by simp only [e9]
        simpa using this
       rw [Ro];simp [h,h',I8 h,I8 h',D5.Q9,D5.ag,A9R _ (D5.oL (ha.one.pat _ (z1q h))) _ e11,N9 (show i<9223372036854775807 by omega)])
    simp [Ex.FU,e1,e2,e3,e4,e5,e6,e7,e8]
    by_cases h1:a.lo=b.lo <;> simp [h1]
    by_cases h2:a.hi=b.hi <;> simp [h2,B2x]
    by_cases Qf:a.H6=b.H6 <;> simp [Qf]
   ·have:a≠b:=fun h=>he (by rw [h])
    rw [if_neg he];simp [this]
def Y1 (np:Nat):DV := .agg [.bool (P9 k), .bool (V3 k), .bool (kN k), .bool (kS k), .bool (Ah k), .bool (Ag k), .bool (Q5 k), .bool (Q8 k), .bool (Q4 k), .bool (kA k), .bool (kB k), .bool (M9 k), .int .i64 (O5 k np)]
variable (t:Tm)
theorem A5r (ht:t.Mr):∃ d,(run cfg).p Oi [t.enc]=some (.F3 [d, .bool (Bn t.kind t.H6.length)])/\(Bn t.kind t.H6.length=true->d=Y1 t.kind t.H6.length)/\C9 13 d=true:=by
 have hp:=big (z7q ht.H6)
 suffices h:∃ d,Oy (run cfg) t.enc=some (.F3 [d, .bool (Bn t.kind t.H6.length)])/\(Bn t.kind t.H6.length=true->d=Y1 t.kind t.H6.length)/\C9 13 d=true by
  obtain ⟨d,h1,h2⟩:=h;exact ⟨d,A0P _ h1,h2⟩
 rw [gP];have fl:∀ {a b c d e f g h i j k l:Bool} {n:Int},C9 13 (.agg [.bool a, .bool b, .bool c, .bool d, .bool e, .bool f, .bool g, .bool h, .bool i, .bool j, .bool k, .bool l, .int .i64 n])=true:=rfl
 by_cases k14:t.kind=14
 ·have h1:A8 .add (.int .i64 (t.H6.length:Int)) (.int .i64 1)=some (.int .i64 ((t.H6.length:Int)+1)):=Nt (by omega) (by omega)
  simp [k14,h1,Bn,Y1,P9,V3,kN,kS,Ah,Ag,Q5,Q8,Q4,kA,kB,M9,O5,fl]
 by_cases k1:t.kind=1
 ·simp [k1,Bn,Y1,P9,V3,kN,kS,Ah,Ag,Q5,Q8,Q4,kA,kB,M9,O5,fl]
 by_cases k2:t.kind=2
 ·simp [k2,Bn,Y1,P9,V3,kN,kS,Ah,Ag,Q5,Q8,Q4,kA,kB,M9,O5,fl]
 by_cases k3:t.kind=3
 ·simp [k3,Bn,Y1,P9,V3,kN,kS,Ah,Ag,Q5,Q8,Q4,kA,kB,M9,O5,fl]
 by_cases k4:t.kind=4
 ·simp [k4,Bn,Y1,P9,V3,kN,kS,Ah,Ag,Q5,Q8,Q4,kA,kB,M9,O5,fl]
 by_cases k5:t.kind=5
 ·simp [k5,Bn,Y1,P9,V3,kN,kS,Ah,Ag,Q5,Q8,Q4,kA,kB,M9,O5,fl]
 by_cases k6:t.kind=6
 ·simp [k6,Bn,Y1,P9,V3,kN,kS,Ah,Ag,Q5,Q8,Q4,kA,kB,M9,O5,fl]
 by_cases k7:t.kind=7
 ·simp [k7,Bn,Y1,P9,V3,kN,kS,Ah,Ag,Q5,Q8,Q4,kA,kB,M9,O5,fl]
 by_cases k8:t.kind=8
 ·simp [k8,Bn,Y1,P9,V3,kN,kS,Ah,Ag,Q5,Q8,Q4,kA,kB,M9,O5,fl]
 by_cases k9:t.kind=9
 ·simp [k9,Bn,Y1,P9,V3,kN,kS,Ah,Ag,Q5,Q8,Q4,kA,kB,M9,O5,fl]
 by_cases k10:t.kind=10
 ·simp [k10,Bn,Y1,P9,V3,kN,kS,Ah,Ag,Q5,Q8,Q4,kA,kB,M9,O5,fl]
 by_cases k11:t.kind=11
 ·simp [k11,Bn,Y1,P9,V3,kN,kS,Ah,Ag,Q5,Q8,Q4,kA,kB,M9,O5,fl]
 by_cases k12:t.kind=12
 ·simp [k12,Bn,Y1,P9,V3,kN,kS,Ah,Ag,Q5,Q8,Q4,kA,kB,M9,O5,fl]
 by_cases k13:t.kind=13
 ·simp [k13,Bn,Y1,P9,V3,kN,kS,Ah,Ag,Q5,Q8,Q4,kA,kB,M9,O5,fl]
 by_cases k15:t.kind=15
 ·simp [k15,Bn,Y1,P9,V3,kN,kS,Ah,Ag,Q5,Q8,Q4,kA,kB,M9,O5,fl]
 by_cases k16:t.kind=16
 ·simp [k16,Bn,Y1,P9,V3,kN,kS,Ah,Ag,Q5,Q8,Q4,kA,kB,M9,O5,fl]
 ·have hk:Bn t.kind t.H6.length=false:=by
   unfold Bn;rw [y8q];intro h;simp only [zdq,decide_eq_true_eq] at h;omega
  simp [hk,k1,k2,k3,k4,k5,k6,k7,k8,k9,k10,k11,k12,k13,k14,k15,k16,fl]
theorem A94 (t:Ty):(run cfg).p i_ [t.enc]=some (.bool t.none):=by
 refine (tu _).trans ?_;rw [xM];simp [Ty.none]
 by_cases h1:t.kind=0 <;> by_cases h2:t.n=0 <;> simp [h1,h2]
theorem uq (h:Bool) (t:Ty) (ht:t.thin=true):(run cfg).p TW [.bool h,t.enc]=some (.bool (X7 h t)):=by
 refine (mP _ _).trans ?_;rw [sN];cases h
 ·simp [Ty.Q9,Ty.ag,A94,X7]
 ·simp [Ty.Q9,Ty.ag,GG t ht,X7]
theorem uo (h:Bool) (s:ByteArray) (hs:s.size<=4294967000):(run cfg).p TU [.bool h, .str s]=some (.bool (z8 h s)):=by
 refine (mM _ _).trans ?_;rw [sG];cases h
 ·simp [z8,Ba]
 ·simp [z8,A0a s (by unfold lim;omega)]
theorem A7R (ht:t.Mr):(run cfg).p Db [t.enc]=some (.bool t.lists):=by
 have hv:=big (z7q ht.vars);have ha:=big (z7q ht.args);have hp:=big (z7q ht.H6);refine (mK _).trans ?_;have l3:=iJ (l:=t.H6) (f:=D5.right) (P:=fun i=>LX (run cfg) (.list 7 (t.H6.map D5.enc)) (.int .i64 t.H6.length) (.int .i64 i))
  (by rw [QI];simp)
  (fun i h=>by
    rw [QI];have f:=ht.pat _ (z1q h);simp [h,I8 h,D5.Q9,D5.ag,A3j _ (D5.oL f) f.txt,N9 (show i<9223372036854775807 by omega)]
    cases t.H6[i].right <;> rfl)
 have l2:=Lh (l:=t.args) (f:=Ty.right) (P:=fun i=>NH (run cfg) (.list 3 (t.args.map Ty.enc)) (.int .i64 t.args.length) (.int .i64 i) t.enc) (y := .bool (t.H6.all D5.right)) (n := .bool false)
  (by rw [R_];simp [l3])
  (fun i h=>by
    rw [R_];simp [h,I8 h,Ty.Q9,Ty.ag,GG _ (ht.A8i _ (z1q h)),N9 (show i<9223372036854775807 by omega)]
    cases t.args[i].right <;> rfl)
 have l1:=Lh (l:=t.vars) (f:=fun v=>decide (0<=v) && decide (v<=1048576)) (P:=fun i=>NG (run cfg) (J9 t.vars) (.int .i64 t.vars.length) (.int .i64 i) t.enc) (y := .bool (t.args.all Ty.right && t.H6.all D5.right)) (n := .bool false)
  (by rw [Rz];simp only [H7,ziq,decide_false,E9,C8,z0q,if_false,Tm.Ib,K5,z3q,l2,dw])
  (fun i h=>by
    rw [Rz];simp [h,Hm h,N9 (show i<9223372036854775807 by omega)]
    by_cases h1:t.vars[i]<0
    ·simp [h1,show ¬ 0<=t.vars[i] by omega]
    ·by_cases h2:1048576<t.vars[i]
     ·simp [h1,h2,show ¬ t.vars[i]<=1048576 by omega]
     ·simp [h1,h2,show 0<=t.vars[i] by omega,show t.vars[i]<=1048576 by omega])
 rw [sD];simp only [F9,D6,Tm.OU,Kv,E9,l1,dw,Tm.lists,y0q]
theorem B04 (ht:t.Mr):(run cfg).p nX [t.enc]=some (.bool t.one):=by
 refine (yK _).trans ?_;obtain ⟨d,h1,h2,h3⟩:=A5r t ht;rw [A1Z];have x0:∀ b,I9 0 (.F3 [d, .bool b])=some d:=fun _=>rfl
 have x1:∀ b,I9 1 (.F3 [d, .bool b])=some (.bool b):=fun _=>rfl
 simp only [F9,D6,Tm.pj,F6,Tm.Q9,Tm.ag,Ty.Q9,Ty.ag,h1,x0,x1,E9,h3,M8,H5];cases hk:Bn t.kind t.H6.length
 ·simp [Tm.one,hk]
 rw [h2 hk];have p0:A7 0 (Y1 t.kind t.H6.length) = .bool (P9 t.kind):=rfl;have p1:A7 1 (Y1 t.kind t.H6.length) = .bool (V3 t.kind):=rfl;have p2:A7 2 (Y1 t.kind t.H6.length) = .bool (kN t.kind):=rfl;have p3:A7 3 (Y1 t.kind t.H6.length) = .bool (kS t.kind):=rfl;have p4:A7 4 (Y1 t.kind t.H6.length) = .bool (Ah t.kind):=rfl;have p5:A7 5 (Y1 t.kind t.H6.length) = .bool (Ag t.kind):=rfl;have p6:A7 6 (Y1 t.kind t.H6.length) = .bool (Q5 t.kind):=rfl;have p7:A7 7 (Y1 t.kind t.H6.length) = .bool (Q8 t.kind):=rfl;have p8:A7 8 (Y1 t.kind t.H6.length) = .bool (Q4 t.kind):=rfl;have p9:A7 9 (Y1 t.kind t.H6.length) = .bool (kA t.kind):=rfl;have zW:A7 10 (Y1 t.kind t.H6.length) = .bool (kB t.kind):=rfl;have p11:A7 11 (Y1 t.kind t.H6.length) = .bool (M9 t.kind):=rfl;have p12:A7 12 (Y1 t.kind t.H6.length) = .int .i64 (O5 t.kind t.H6.length):=rfl;have Qg:RS (run cfg) t.enc (Y1 t.kind t.H6.length)=some (.bool t.OQ):=by
  rw [lQ];simp only [p6,p7,p8,Tm.pj,F6,Tm.Q9,Tm.ag,A7R t ht,K5,Kv,z3q,E9,M8,H5,C8,X8,Tm.OQ];cases Q5 t.kind <;> cases Q8 t.kind <;> cases Q4 t.kind <;> by_cases v:t.vars.length=0 <;> by_cases a:t.args.length=0 <;> by_cases p:t.H6.length=0 <;> simp [v,a,p,Nat.pos_iff_ne_zero]
 have Uk:Ir (run cfg) t.enc (Y1 t.kind t.H6.length)=some (.bool t.Mt):=by
  rw [lN];simp only [p11,Tm.W_,Tm.Ux,Qg,E9,M8,H5,C8,X8,H7,Ap,Tm.Mt]
  by_cases a:t.label<0
  ·have a':¬ 0<=t.label:=by omega
   cases M9 t.kind <;> cases t.neg <;> by_cases v:t.label=0 <;> simp [a,a',v]
  ·have a':0<=t.label:=by omega
   by_cases p:1048576<t.label
   ·have p':¬ t.label<=1048576:=by omega
    cases M9 t.kind <;> cases t.neg <;> by_cases v:t.label=0 <;> simp [a,a',p,p',v]
   ·have p':t.label<=1048576:=by omega
    cases M9 t.kind <;> cases t.neg <;> by_cases v:t.label=0 <;> simp [a,a',p,p',v]
 have h8:KQ (run cfg) t.enc (Y1 t.kind t.H6.length)=some (.bool t.Lp):=by
  rw [sK];simp only [p4,Tm.Zt,Uk,E9,M8,H5,C8,X8,H7,Ap,Tm.Lp];cases Ah t.kind
  ·by_cases v:t.op=0 <;> simp [v]
  ·by_cases a:t.op<1
   ·simp [a,show ¬ 1<=t.op by omega]
   ·by_cases p:7<t.op
    ·simp [a,p,show ¬ t.op<=7 by omega]
    ·simp [a,p,show 1<=t.op by omega,show t.op<=7 by omega]
 have hs:∀ n:Nat,A8 .gtr (.int .i64 (n:Int)) (.int .i64 200)=some (.bool (decide (200<n))):=fun n=>by
  rw [X8];congr 2;rw [decide_eq_decide];omega
 have h6:Fw (run cfg) t.enc (Y1 t.kind t.H6.length)=some (.bool t.Lm):=by
  rw [sJ];simp only [p3,p5,Tm.Hd,Tm.JX,Tm.El,h8,E9,M8,H5,C8,Ev,hs,Ba,wQ,B5D,Tm.Lm];generalize t.s.size=z
  by_cases a:200<z
  ·have:¬ z<=200:=by omega
   cases kS t.kind <;> by_cases v:t.s=O0 <;> simp [a,v,this]
  ·have:z<=200:=by omega
   cases kS t.kind <;> cases Ag t.kind <;> by_cases v:t.s=O0 <;> by_cases x:t.lo=0 <;> by_cases y:t.hi=0 <;> simp [a,v,x,y,this]
 have h4:ai (run cfg) t.enc (Y1 t.kind t.H6.length)=some (.bool t.Kj):=by
  rw [sH];simp only [p2,Tm.Bf,Tm.Y3,h6,E9,M8,H5,C8,Ap,M0,Tm.Kj];cases kN t.kind <;> by_cases v:t.kind=3 <;> by_cases x:t.n=0 <;> by_cases y:t.n=1 <;> simp [v,x,y]
 simp only [p0,p1,p9,zW,p12,uo _ _ ht.name,uo _ _ ht.arg,uq _ _ ht.a,uq _ _ ht.b,h4,K5,z3q,E9,M8,H5,C8,Ap,Tm.one,hk]
 by_cases v:(t.kids.length:Int)=O5 t.kind t.H6.length <;> cases z8 (P9 t.kind) t.name <;> cases z8 (V3 t.kind) t.arg <;> cases X7 (kA t.kind) t.a <;> cases X7 (kB t.kind) t.b <;> simp [v]
theorem Yo:t.fit->(run cfg).p Ni [t.enc]=some (.bool t.right):=by
 induction t using Tm.ind with
 | h t ih =>
   intro ht;have hk:=big (z7q ht.one.kids);refine (mO _).trans ?_;have loop:=iJ (l:=t.kids) (f:=Tm.right) (P:=fun i=>NI (run cfg) (.list 20 (t.kids.map Tm.enc)) (.int .i64 t.kids.length) (.int .i64 i))
    (by rw [SA];simp)
    (fun i h=>by
      rw [SA];simp [h,I8 h,Tm.Q9,Tm.ag,ih _ (z1q h) (ht.kid (z1q h)),N9 (show i<9223372036854775807 by omega)]
      cases t.kids[i].right <;> rfl)
   rw [sM,Tm.right_eq];simp [Tm.Q9,Tm.ag,B04 t ht.one,loop];cases t.one <;> simp
theorem A7P (ht:t.fit):(run cfg).p aU [t.enc]=some (.int .i64 (if t.right=true then 0 else 1)):=by
 refine (mI _).trans ?_;rw [rz];simp [Tm.Q9,Tm.ag,Yo t ht];cases t.right <;> rfl
theorem Tm.BR:t.Zc.enc = .agg [.int .i64 t.kind, .int .i64 (if Ag t.kind=true then t.lo else 0), .int .i64 (if Ag t.kind=true then t.hi else 0), .str (if P9 t.kind=true then t.name else O0), .str (if V3 t.kind=true then t.arg else O0), .int .i64 (if kN t.kind=true then t.n else 0),
 .str (if kS t.kind=true then t.s else O0), .int .i64 (if Ah t.kind=true then t.op else 0), .int .i64 (if M9 t.kind=true then t.label else 0), .bool (if M9 t.kind=true then t.neg else false),J9 (if Q5 t.kind=true then t.vars else []),
 .int .i64 (if kA t.kind=true then t.a else .mk 0 0 []).kind, .int .i64 (if kA t.kind=true then t.a else .mk 0 0 []).n, .list 3 ((if kA t.kind=true then t.a else .mk 0 0 []).kids.map Ty.enc),
 .int .i64 (if kB t.kind=true then t.b else .mk 0 0 []).kind, .int .i64 (if kB t.kind=true then t.b else .mk 0 0 []).n, .list 3 ((if kB t.kind=true then t.b else .mk 0 0 []).kids.map Ty.enc),
 .list 3 ((if Q8 t.kind=true then t.args else []).map Ty.enc), .list 7 ((if Q4 t.kind=true then t.H6 else []).map D5.enc), .list 20 []]:=Tm.H8 t.Zc
theorem B00 (ht:t.Mr):(run cfg).p nV [t.enc]=some (.F3 [t.Zc.enc, .int .i64 t.FH]):=by
 have hp:=big (z7q ht.H6);refine (x_ _).trans ?_;have h25:¬ (t.kind=1)->¬ (t.kind=2)->¬ (t.kind=3)->¬ (t.kind=4)->¬ (t.kind=5)->¬ (t.kind=6)->¬ (t.kind=7)->¬ (t.kind=8)->¬ (t.kind=9)->¬ (t.kind=10) ->
  YA (run cfg) (.int .i64 t.kind) t.enc (.str O0) (.str O0) (.str O0) (.int .i64 t.kind) (.str O0) (.str O0) (.str O0)=some (.F3 [t.Zc.enc, .int .i64 t.FH]):=by
  intro k1 k2 k3 k4 k5 k6 k7 k8 k9 k10;rw [lF]
  by_cases k11:t.kind=11
  ·simp [Ba,Tm.BR,Tm.FH,k11,P9,V3,kN,kS,Ah,Ag,Q5,Q8,Q4,kA,kB,M9,O5,J9]
  by_cases k12:t.kind=12
  ·simp [Ba,Tm.BR,Tm.FH,k12,P9,V3,kN,kS,Ah,Ag,Q5,Q8,Q4,kA,kB,M9,O5,J9]
  by_cases k13:t.kind=13
  ·simp [Ba,Tm.BR,Tm.FH,k13,P9,V3,kN,kS,Ah,Ag,Q5,Q8,Q4,kA,kB,M9,O5,J9]
  by_cases k14:t.kind=14
  ·have h1:A8 .add (.int .i64 (t.H6.length:Int)) (.int .i64 1)=some (.int .i64 ((t.H6.length:Int)+1)):=Nt (by omega) (by omega)
   simp [Ba,Tm.BR,Tm.FH,k14,h1,P9,V3,kN,kS,Ah,Ag,Q5,Q8,Q4,kA,kB,M9,O5,J9]
  by_cases k15:t.kind=15
  ·simp [Ba,Tm.BR,Tm.FH,k15,P9,V3,kN,kS,Ah,Ag,Q5,Q8,Q4,kA,kB,M9,O5,J9]
  by_cases k16:t.kind=16
  ·simp [Ba,Tm.BR,Tm.FH,k16,P9,V3,kN,kS,Ah,Ag,Q5,Q8,Q4,kA,kB,M9,O5,J9]
  have hk:¬ (1<=t.kind/\t.kind<=16):=by omega
  simp [Ba,Tm.BR,Tm.FH,hk,k1,k2,k3,k4,k5,k6,k7,k8,k9,k10,k11,k12,k13,k14,k15,k16,P9,V3,kN,kS,Ah,Ag,Q5,Q8,Q4,kA,kB,M9,O5,J9]
 rw [A1P];simp only [Ba]
 by_cases k1:t.kind=1
 ·simp [Ba,Tm.BR,Tm.FH,k1,P9,V3,kN,kS,Ah,Ag,Q5,Q8,Q4,kA,kB,M9,O5,J9]
 by_cases k2:t.kind=2
 ·simp [Ba,Tm.BR,Tm.FH,k2,P9,V3,kN,kS,Ah,Ag,Q5,Q8,Q4,kA,kB,M9,O5,J9]
 by_cases k3:t.kind=3
 ·simp [Ba,Tm.BR,Tm.FH,k3,P9,V3,kN,kS,Ah,Ag,Q5,Q8,Q4,kA,kB,M9,O5,J9]
 by_cases k4:t.kind=4
 ·simp [Ba,Tm.BR,Tm.FH,k4,P9,V3,kN,kS,Ah,Ag,Q5,Q8,Q4,kA,kB,M9,O5,J9]
 by_cases k5:t.kind=5
 ·simp [Ba,Tm.BR,Tm.FH,k5,P9,V3,kN,kS,Ah,Ag,Q5,Q8,Q4,kA,kB,M9,O5,J9]
 by_cases k6:t.kind=6
 ·simp [Ba,Tm.BR,Tm.FH,k6,P9,V3,kN,kS,Ah,Ag,Q5,Q8,Q4,kA,kB,M9,O5,J9]
 by_cases k7:t.kind=7
 ·simp [Ba,Tm.BR,Tm.FH,k7,P9,V3,kN,kS,Ah,Ag,Q5,Q8,Q4,kA,kB,M9,O5,J9]
 by_cases k8:t.kind=8
 ·simp [Ba,Tm.BR,Tm.FH,k8,P9,V3,kN,kS,Ah,Ag,Q5,Q8,Q4,kA,kB,M9,O5,J9]
 by_cases k9:t.kind=9
 ·simp [Ba,Tm.BR,Tm.FH,k9,P9,V3,kN,kS,Ah,Ag,Q5,Q8,Q4,kA,kB,M9,O5,J9]
 by_cases k10:t.kind=10
 ·simp [Ba,Tm.BR,Tm.FH,k10,P9,V3,kN,kS,Ah,Ag,Q5,Q8,Q4,kA,kB,M9,O5,J9]
 simp [k1,k2,k3,k4,k5,k6,k7,k8,k9,k10,h25]
def Zf:Ex := .mk 14 0 0 O0 O0 0 O0 0 (.mk 0 0 []) (.mk 0 0 []) [p] []
theorem B34 {p:D5} (h:p.fit):(Zf p).fit:=by
 have t0:(Ty.mk 0 0 []).thin=true:=by rw [Ty.Kq];simp [lim]
 have t1:(Ty.mk 0 0 []).Kr<=lim:=by rw [Ty.A0i];simp [lim]
 refine .mk _ ⟨?_, ?_, ?_,t0,t0,t1,t1, ?_, ?_, ?_⟩ fun k hk=>by simp [Zf] at hk
 ·show O0.size<=_;exact zLq _
 ·show O0.size<=_;exact zLq _
 ·show O0.size<=_;exact zLq _
 ·simp [Zf,lim]
 ·simpa [Zf] using h
 ·simp [Zf,lim]
theorem A4f {e : α -> DV} {sz:Nat} {l:List α} {i:Nat} (h:i<l.length):CP sz (.list sz (l.map e)) (some (.int .i64 (i:Int))) (some (.int .i64 ((i+1:Nat):Int)))=some (.list sz [e l[i]]):=by
 have e1:((l.map e).take (i+1)).drop i=[e l[i]]:=by
  rw [List.drop_take,show i+1-i=1 by omega,z2q (by simpa using h)]
  simp
 simp only [CP,bnd,E9,zYq,if_true,y2q,z3q,true_and];rw [if_pos ⟨by omega,by omega⟩,e1]
structure Tm.B7g (t:Tm):Prop where
 vars:t.vars.length<lim
 a:t.a.thin=true
 b:t.b.thin=true
 args:t.args.length<lim
 A8i:∀ y∈t.args,y.thin=true
 H6:t.H6.length<lim
 pat:∀ p∈t.H6,p.fit
theorem Tm.Mr.toS {t:Tm} (h:t.Mr):t.B7g:=⟨h.vars,h.a,h.b,h.args,h.A8i,h.H6,h.pat⟩
theorem A9V (a:Tm) (ha:a.B7g) (b:Tm):(run cfg).p ZW [a.enc,b.enc]=some (.bool (a.A0x b)):=by
 have hv:=big (z7q ha.vars);have hp:=big (z7q ha.H6);refine (yA _ _).trans ?_;have h3:ae (run cfg) a.enc b.enc=some (.bool (decide (a.args=b.args) && decide (a.a=b.a) && decide (a.b=b.b) && decide (a.vars=b.vars) && decide (a.H6=b.H6))):=by
  rw [rU];simp [Ty.Q9,Ty.ag,A54 _ _ (z7q ha.args) ha.A8i,Fv _ ha.a,Fv _ ha.b,zzq]
  by_cases e1:a.vars.length=b.vars.length
  ·by_cases e2:a.H6.length=b.H6.length
   ·have l2:=Xl (l:=a.H6) (m:=b.H6) e2 (P:=fun i=>Ox (run cfg) (.int .i64 i) a.enc b.enc)
     (by rw [UQ];simp [e2])
     (fun i h=>by
       have h':i<b.H6.length:=by omega
       rw [UQ];have f:=B34 (ha.pat _ (z1q h));have eA:∀ p:D5,DV.agg ((.int .i64 14)::(Nb (Xu (Kt (Kt [.list 7 [p.enc], .list 16 []])))))=(Zf p).enc:=fun p=>by
        rw [Ex.H8];rfl
       have d1:=A4f (e:=D5.enc) (sz:=7) h;have d2:=A4f (e:=D5.enc) (sz:=7) h';simp only [Tm.A43,K5,z3q,E9,H7,zeq,h,decide_true,C8,if_true,N9 (show i<9223372036854775807 by omega),d1,d2,jY,D6,eA,A7H _ f,M8]
       have:(Zf a.H6[i]=Zf b.H6[i]) ↔ a.H6[i]=b.H6[i]:=by simp [Zf]
       simp only [this]
       by_cases h9:a.H6[i]=b.H6[i] <;> simp [h9])
    have l1:=SQ (l:=a.vars) (m:=b.vars) e1 (P:=fun i=>RG (run cfg) (.int .i64 i) a.enc b.enc) (y := .bool (decide (a.H6=b.H6))) (n := .bool false)
     (by rw [Vq];simp [e1,l2])
     (fun i h=>by
       have h':i<b.vars.length:=by omega
       rw [Vq];simp [h,h',Hm h,Hm h',N9 (show i<9223372036854775807 by omega)])
    simp only [e1,e2,if_true,l1]
    by_cases h1:a.args=b.args <;> by_cases h2:a.a=b.a <;> by_cases h3:a.b=b.b <;> by_cases h4:a.vars=b.vars <;> simp [h1,h2,h3,h4]
   ·have:a.H6≠b.H6:=fun h=>e2 (by rw [h])
    simp [e1,e2,this]
  ·have:a.vars≠b.vars:=fun h=>e1 (by rw [h])
   simp [e1,this]
 rw [A1Q];simp [h3,Tm.A0x]
 by_cases h1:a.kind=b.kind <;> simp [h1]
 by_cases h2:a.lo=b.lo <;> simp [h2]
 by_cases h4:a.hi=b.hi <;> simp [h4]
 by_cases h5:a.name=b.name <;> simp [h5]
 by_cases h6:a.arg=b.arg <;> simp [h6]
 by_cases h7:a.n=b.n <;> simp [h7]
 by_cases h8:a.s=b.s <;> simp [h8]
 by_cases h9:a.op=b.op <;> simp [h9]
 by_cases Uk:a.label=b.label <;> simp [Uk]
 by_cases Qf:a.neg=b.neg <;> simp [Qf]
theorem B01 (a:Tm) (ha:a.Mr) (b:Tm):(run cfg).p ZW [a.enc,b.enc]=some (.bool (a.A0x b)):=A9V a ha.toS b
theorem B27 (ht:t.Mr):(run cfg).p vI [t.enc]=some (.bool t.one):=by
 have hv:=big (z7q ht.vars);have ha:=big (z7q ht.args);have hp:=big (z7q ht.H6);have hs:∀ n:Nat,A8 .leq (.int .i64 (n:Int)) (.int .i64 200)=some (.bool (decide (n<=200))):=fun n=>by
  rw [Ao];congr 2;rw [decide_eq_decide];omega
 have hz:∀ n:Nat,A8 .gtr (.int .i64 (n:Int)) (.int .i64 0)=some (.bool (decide (0<n))):=fun n=>by
  rw [X8];congr 2;rw [decide_eq_decide];omega
 refine (A2a _).trans ?_;have l3:=Lh (l:=t.H6) (f:=D5.right) (P:=fun i=>RJ (run cfg) (.int .i64 i) t.enc) (y := .bool t.Jl) (n := .bool false)
  (by
    rw [Vt];simp only [Tm.pj,F6,K5,z3q,E9,H7,ziq,decide_false,C8,H5,z0q,if_false,M0,decide_eq_true_eq,
     XE _ ht.name,XE _ ht.arg,Ty.Q9,Ty.ag,fF _ ht.a,fF _ ht.b,Ev,hs,hz,IR,Ao,Tm.Jl,B4j,A81]
    simp only [y4q,Bool.if_false_right,Bool.decide_eq_true,y0q])
  (fun i h=>by
    rw [Vt];have f:=ht.pat _ (z1q h);simp [h,I8 h,D5.Q9,D5.ag,A5n _ f.size f.txt,N9 (show i<9223372036854775807 by omega)]
    cases t.H6[i].right <;> rfl)
 have l2:=Lh (l:=t.vars) (f:=fun v=>decide (0<=v) && decide (v<=1048576)) (P:=fun i=>RI (run cfg) (.int .i64 i) t.enc) (y := .bool (t.H6.all D5.right && t.Jl)) (n := .bool false)
  (by rw [Vs];simp only [Tm.OU,Kv,H7,ziq,decide_false,E9,C8,z0q,if_false,l3,dw])
  (fun i h=>by
    rw [Vs];simp [h,Hm h,N9 (show i<9223372036854775807 by omega)]
    by_cases h1:t.vars[i]<0
    ·simp [h1,show ¬ 0<=t.vars[i] by omega]
    ·by_cases h2:1048576<t.vars[i]
     ·simp [h1,h2,show ¬ t.vars[i]<=1048576 by omega]
     ·simp [h1,h2,show 0<=t.vars[i] by omega,show t.vars[i]<=1048576 by omega])
 have l1:=Lh (l:=t.args) (f:=Ty.right) (P:=fun i=>Tu (run cfg) (.int .i64 i) t.enc) (y := .bool (t.vars.all (fun v=>decide (0<=v) && decide (v<=1048576)) && (t.H6.all D5.right && t.Jl))) (n := .bool false)
  (by rw [YS];simp only [Tm.Ib,K5,z3q,H7,ziq,decide_false,E9,C8,z0q,if_false,l2,dw])
  (fun i h=>by
    rw [YS];simp [h,I8 h,Ty.Q9,Ty.ag,fF _ (ht.A8i _ (z1q h)),N9 (show i<9223372036854775807 by omega)]
    cases t.args[i].right <;> rfl)
 have x0:∀ a b,I9 0 (.F3 [a,b])=some a:=fun _ _=>rfl
 have x1:∀ a b,I9 1 (.F3 [a,b])=some b:=fun _ _=>rfl
 rw [A4o];simp only [F9,D6,Tm.pj,F6,Tm.Q9,Tm.ag,B00 t ht,x0,x1,E9,K5,z3q,Ap,H5,C8,
  B01 _ (Tm.B3u ht),M8,l1]
 rw [<- Tm.B8m];unfold Tm.lists
 by_cases h1:t.FH=(t.kids.length:Int)
 ·cases h2:t.Zc.A0x t
  ·simp [h1]
  ·simp only [h1,decide_true,z9q,z0q,if_false,dw,B6a,zxq,y0q]
   rw [Bool.and_left_comm]
 ·simp [h1]
theorem VD:t.fit->(run cfg).p Jb [t.enc]=some (.bool t.right):=by
 induction t using Tm.ind with
 | h t ih =>
   intro ht;have hk:=big (z7q ht.one.kids);refine (tQ _).trans ?_;have loop:=iJ (l:=t.kids) (f:=Tm.right) (P:=fun i=>Ov (run cfg) (.int .i64 i) t.enc)
    (by rw [UN];simp)
    (fun i h=>by
      rw [UN];simp [h,I8 h,Tm.Q9,Tm.ag,ih _ (z1q h) (ht.kid (z1q h)),N9 (show i<9223372036854775807 by omega)]
      cases t.kids[i].right <;> rfl)
   rw [xF,Tm.right_eq];simp [Tm.Q9,Tm.ag,B27 t ht.one,loop];cases t.one <;> simp
variable (l:List Int)
theorem A5p (hl:l.length<=lim) (n:Int):∃ k:Int,(run cfg).p Im [J9 l, .int .i64 n]=some (.int .i64 k)/\(0<=k ↔ n∈l):=by
 have hb:=big hl;have loop:∀ (m i:Nat),i+m=l.length->∃ k:Int,Dn (run cfg) (J9 l) (.int .i64 n) (.int .i64 l.length) (.int .i64 i)=some (.int .i64 k)/\(0<=k ↔ n∈l.drop i):=by
  intro m
  induction m with
  | zero =>
    intro i hi;have:¬ i<l.length:=by omega
    rw [Fx];exact ⟨-1,by simp [this],by simp [zbq (show l.length<=i by omega)]⟩
  | succ m ihm =>
    intro i hi;have h:i<l.length:=by omega
    rw [Fx,z2q h]
    by_cases e:n=l[i]
    ·exact ⟨i,by simp [h,Hm h,e],⟨fun _=>by rw [e];exact zFq ..,fun _=>by omega⟩⟩
    ·obtain ⟨k,h1,h2⟩:=ihm (i+1) (by omega)
     push_cast at h1;refine ⟨k,by simp [h,Hm h,e,N9 (show i<9223372036854775807 by omega),h1], ?_⟩
     rw [h2,zMq];simp [e]
 obtain ⟨k,h1,h2⟩:=loop l.length 0 (by omega)
 refine ⟨k,(NS _ _).trans ?_,by simpa using h2⟩
 rw [OC];simpa using h1
theorem z_ (hl:l.length<=lim) (n:Int):(run cfg).p GY [J9 l, .int .i64 n]=some (.bool (decide (n∈l))):=by
 refine (KZ _ _).trans ?_;rw [Kw];obtain ⟨k,h1,h2⟩:=A5p l hl n;simp [h1,h2]
variable (l:List (Int × Ty))
def A0n:Prop :=
 ∀ v,match AO es (.int .i64 v) with
   | none=>∀ e∈l,e.1≠v
   | some d=>∃ (i:Nat) (h:i<l.length),d = .int .i64 i/\l[i].1=v/\∀ j (hj:j<i),(l[j]'(by omega)).1≠v
variable {es:List (DV × DV)}
theorem A0n.look {l:List (Int × Ty)} (h:A0n es l) (v:Int):(AO es (.int .i64 v)=none/\look l v=none)\/∃ (i:Nat) (hi:i<l.length),AO es (.int .i64 v)=some (.int .i64 i)/\look l v=some l[i].2:=by
 have:=h v;cases hm:AO es (.int .i64 v) with
 | none =>
   rw [hm] at this
   left
   refine ⟨rfl, ?_⟩;unfold Su.look;rw [List.find?_eq_none.2]
   ·rfl
   ·intro e he;simpa using this e he
 | some d =>
   rw [hm] at this;obtain ⟨i,hi,rfl,h1,h2⟩:=this
   right
   refine ⟨i,hi,rfl, ?_⟩;unfold Su.look;have:l.find? (fun e=>decide (e.1=v))=some l[i]:=by
    rw [List.find?_eq_some_iff_getElem];refine ⟨by simpa using h1,i,hi,rfl,fun j hj => ?_⟩
    simpa using h2 j hj
   rw [this];rfl
@[simp] theorem C3z (e:Int × Ty):A7 0 (U7 e) = .int .i64 e.1:=rfl
@[simp] theorem C3A (e:Int × Ty):A7 1 (U7 e) = .int .i64 e.2.kind:=rfl
@[simp] theorem C3B (e:Int × Ty):A7 2 (U7 e) = .int .i64 e.2.n:=rfl
@[simp] theorem C3C (e:Int × Ty):A7 3 (U7 e) = .list 3 (e.2.kids.map Ty.enc):=rfl
@[simp] theorem C1O (e:Int × Ty):C9 4 (U7 e)=true:=rfl
theorem A7O (es:List (DV × DV)) (hf:A0n es l) (i:Nat) (sg:List D8) (hm:Av sg i=some (false,es)) (t:Ty):t.right=true ->
 (run cfg).r TR [(t.enc, .val),(M6 l, .val),(.undef, .map i)] sg=some ([(t.put l).enc],sg):=by
 induction t using Ty.ind with
 | h t ih =>
   intro ht;have hb:=t.D_ (Ty.Bq ht);refine (mH _ _ _ _).trans ?_;rw [rq,Ty.put_eq]
   by_cases h6:t.kind=6
   ·have e6:DV.agg [.int .i64 6, .int .i64 t.n, .list 3 (t.kids.map Ty.enc)]=t.enc:=by rw [<- h6];exact Ty.Q9 t
    rcases hf.look t.n with ⟨h1,h2⟩ | ⟨j,hj,h1,h2⟩
    ·simp [h6,hm,h1,h2,e6]
    ·have e1:F5 4 (M6 l) (.int .i64 (j:Int))=some (U7 l[j]):=I8 hj
     simp [h6,hm,h1,h2,e1,Ty.Q9,Ty.ag]
   ·have loop:=JU (l:=t.kids) (P:=fun j (a:List Ty)=>LW (run cfg) (M6 l) i (.list 3 (t.kids.map Ty.enc)) (.int .i64 t.kids.length) (.int .i64 j) (.int .i64 t.kind) (.list 3 (a.map Ty.enc)) sg)
     (g:=fun a k=>a++[k.put l]) (fin:=fun a=>some ([(Ty.mk t.kind 0 a).enc],sg)) (I:=fun j a=>a.length=j)
     (fun a _=>by rw [QH];simp [Ty.H8])
     (fun j h a ha=>by
       refine ⟨?_,by simp [ha]⟩
       rw [QH];have:=GZ (e:=Ty.enc) (sz:=3) (l:=a) (x:=t.kids[j].put l) (by unfold lim;omega)
       simp [h,I8 h,Ty.Q9,Ty.ag,ih _ (z1q h) (Ty.BU ht (z1q h)),this,N9 (show j<9223372036854775807 by omega)]) [] rfl
    have e:∀ (m:List Ty) (a:List Ty),m.foldl (fun a k=>a++[k.put l]) a=a++m.map (Ty.put l):=by
     intro m
     induction m with
     | nil=>intro a;simp
     | cons x m ih=>intro a;simp [ih]
    rw [e] at loop;have hn:t.n=0:=by have:=(Ty.GD.1 ht).2.2.2.1;omega
    by_cases h0:t.kids.length=0
    ·have hk:t.kids=[]:=zuq h0
     simp only [if_neg h6,hk,zAq,Ty.H8 (Ty.mk t.kind t.n [])];simp [h6,hk]
     try (rw [Ty.H8 t,hk];rfl)
    ·have dQ:¬ ((t.kids.length:Int)=0):=by omega
     simp only [zAq,zoq] at loop;have C2K:¬ t.kids=[]:=fun h=>h0 (by rw [h];rfl)
     simp [h6,dQ,C2K,hn,loop]
variable (t:Ty)
theorem A5o (l:List (Int × Ty)) (ht:t.thin=true) (hl:l.length<=lim) (M4:∀ e∈l,e.2.thin=true) :
 (run cfg).p VU [t.enc,M6 l]=some (if t.right=true/\Z0 l=true then .F3 [(t.put l).enc, .int .i64 0] else .F3 [BA.enc, .int .i64 1]):=by
 have hb:=big hl;have z:BA.enc = .agg (Kt []):=by rw [Ty.H8];rfl
 refine (bz _ _).trans ?_;rw [gL]
 by_cases hr:t.right=true
 ·have loop:∀ (m i:Nat) (es:List (DV × DV)),i+m=l.length->A0n es (l.take i)->(l.take i).all (fun e=>decide (0<=e.1) && decide (e.1<=1048576) && e.2.right)=true ->
   Gn (run cfg) (M6 l) (M6 l) (.int .i64 l.length) (.int .i64 i) t.enc [.map false es]=some (if Z0 l=true then .F3 [(t.put l).enc, .int .i64 0] else .F3 [BA.enc, .int .i64 1]):=by
   intro m
   induction m with
   | zero =>
     intro i es hi hf ha;rw [z8q (by omega)] at hf ha
     have:¬ i<l.length:=by omega
     rw [OB];have hp:=A7O l es hf 0 [.map false es] rfl t hr;have ha':Z0 l=true:=ha;simp [this,Ty.Q9,Ty.ag,hp,ha']
   | succ m ihm =>
     intro i es hi hf ha;have h:i<l.length:=by omega
     have A5N:l[i]∈l:=z1q h;have ha':¬ (0<=l[i].1/\l[i].1<=1048576/\l[i].2.right=true)->Z0 l=false:=by
      intro hh;rw [y8q];intro h';exact hh (WO.1 h' _ A5N)
     rw [OB];have e1:F5 4 (M6 l) (.int .i64 (i:Int))=some (U7 l[i]):=I8 h
     by_cases h1:l[i].1<0
     ·simp [h,e1,h1,ha' (by omega),z]
     by_cases h2:1048576<l[i].1
     ·simp [h,e1,h1,h2,ha' (by omega),z]
     cases h3:l[i].2.right
     ·simp [h,e1,h1,h2,Ty.Q9,Ty.ag,GG _ (M4 _ A5N),h3,ha' (by simp [h3]),z]
     have hm:Av [D8.map false es] 0=some (false,es):=rfl;have WE:(l.take (i+1)).all (fun e=>decide (0<=e.1) && decide (e.1<=1048576) && e.2.right)=true:=by
      rw [z5q h,List.all_append,ha];have h1':0<=l[i].1:=by omega
      have Pq:l[i].1<=1048576:=by omega
      simp [h1',Pq,h3]
     have Dh:(l.take i).length=i:=by simp;omega
     cases hg:AO es (.int .i64 l[i].1) with
     | none =>
       have nx:=ihm (i+1) (BC es (.int .i64 l[i].1) (.int .i64 i)) (by omega) (by
        intro v;rw [B4r]
        by_cases e:l[i].1=v
        ·rw [if_pos e]
         refine ⟨i,by simp;omega,rfl,by simpa using e,fun j hj => ?_⟩
         have:=hf l[i].1;rw [hg] at this;have:=this l[j] (zBq.2 ⟨j,by omega,rfl⟩)
         simpa [e] using this
        ·rw [if_neg e]
         have:=hf v;cases hv:AO es (.int .i64 v) with
         | none =>
           rw [hv] at this;intro x hx;rw [z5q h,zCq,zGq] at hx;rcases hx with hx | rfl
           ·exact this x hx
           ·exact e
         | some d =>
           rw [hv] at this;obtain ⟨k,hk,a,b,c⟩:=this;rw [Dh] at hk;refine ⟨k,by simp;omega,a,by simpa using b,fun j hj=>by simpa using c j hj⟩) WE
       push_cast at nx;simp [h,e1,h1,h2,Ty.Q9,Ty.ag,GG _ (M4 _ A5N),h3,hm,hg,N9 (show i<9223372036854775807 by omega),nx]
     | some d =>
       have nx:=ihm (i+1) es (by omega) (by
        intro v;have:=hf v;cases hv:AO es (.int .i64 v) with
        | none =>
          rw [hv] at this;intro x hx;rw [z5q h,zCq,zGq] at hx;rcases hx with hx | rfl
          ·exact this x hx
          ·intro e;rw [e,hv] at hg;cases hg
        | some d =>
          rw [hv] at this;obtain ⟨k,hk,a,b,c⟩:=this;rw [Dh] at hk;refine ⟨k,by simp;omega,a,by simpa using b,fun j hj=>by simpa using c j hj⟩) WE
       push_cast at nx;simp [h,e1,h1,h2,Ty.Q9,Ty.ag,GG _ (M4 _ A5N),h3,hm,hg,N9 (show i<9223372036854775807 by omega),nx]
  have l0:=loop l.length 0 [] (by omega) (fun v=>by simp [AO]) (by simp)
  simp only [zhq,zmq,zaq] at l0;have dl:dLen (M6 l)=some (.int .i64 l.length):=by simp [M6]
  simp [Ty.Q9,Ty.ag,GG t ht,hr,dl,l0]
 ·simp [Ty.Q9,Ty.ag,GG t ht,hr,z]
theorem Ty.C0q (n:Int) (ks:List Ty):DV.agg [.int .i64 k, .int .i64 n, .list 3 (ks.map Ty.enc)]=(Ty.mk k n ks).enc:=(Ty.H8 (.mk k n ks)).symm
variable (vs:List Int) (ts:List Ty)
theorem B5l (k:Nat) (h1:k<vs.length) (h2:k<ts.length):(vs.take (k+1)).zip (ts.take (k+1))=(vs.take k).zip (ts.take k)++[(vs[k],ts[k])]:=by
 rw [z5q h1,z5q h2,List.zip_append (by simp;omega)]
 rfl
theorem zu (hl:ts.length<=lim) (h:∀ t∈ts,t.size<=lim):∃ b:Bool,(run cfg).p ib [.list 3 (ts.map Ty.enc)]=some (.bool b):=by
 have hb:=big hl;have loop:∀ (n j:Nat),j+n=ts.length->∃ b:Bool,Om (run cfg) (.list 3 (ts.map Ty.enc)) (.int .i64 j)=some (.bool b):=by
  intro n
  induction n with
  | zero =>
    intro j hj;refine ⟨true, ?_⟩;have:¬ j<ts.length:=by omega
    rw [UG];simp [this]
  | succ n ih =>
    intro j hj;have Bg:j<ts.length:=by omega
    obtain ⟨b,Ef⟩:=ih (j+1) (by omega)
    have Aa:=h _ (z1q Bg);have hth:=Ty.Dk Aa;obtain ⟨c,hc⟩:=A7E ts[j] hth;have hd:=B0Z ts[j] 60 (by omega) (by omega) hth
    have hv:=B0V ts[j] Aa;push_cast at Ef;rw [UG];cases c
    ·cases Qh:ts[j].deep 60
     ·by_cases hq:(8:Int)<(ts[j].vars.length:Int)
      ·exact ⟨false,by simp [Bg,I8 Bg,Ty.Q9,Ty.ag,hc,hd,Qh,hv,hq]⟩
      ·exact ⟨b,by simp [Bg,I8 Bg,Ty.Q9,Ty.ag,hc,hd,Qh,hv,hq,N9 (show j<9223372036854775807 by omega),Ef]⟩
     ·exact ⟨false,by simp [Bg,I8 Bg,Ty.Q9,Ty.ag,hc,hd,Qh]⟩
    ·exact ⟨false,by simp [Bg,I8 Bg,Ty.Q9,Ty.ag,hc]⟩
 obtain ⟨b,h1⟩:=loop ts.length 0 (by omega)
 refine ⟨b,(su _).trans ?_⟩;rw [wo];exact h1
theorem zw (h:t.size<=lim):∃ b:Bool,(run cfg).p MU [t.enc]=some (.bool b):=by
 obtain ⟨b,hb⟩:=zu [t] (by simp [lim]) (by simpa using h)
 simp only [zlq,zAq] at hb;have hs:=A2H t h;cases b
 ·refine ⟨false,(MG _).trans ?_⟩
  rw [Nv];simp [Ty.Q9,Ty.ag,hb]
 ·refine ⟨decide ((t.size:Int)<=60),(MG _).trans ?_⟩
  rw [Nv];simp [Ty.Q9,Ty.ag,hb,hs]
theorem B26 (hl:l.length<=lim) (t:Ty):t.right=true->(run cfg).p fP [t.enc,M6 l]=some (t.put l).enc:=by
 have hb:=big hl
 induction t using Ty.ind with
 | h t ih =>
   intro ht;have hn:=t.D_ (Ty.Bq ht);refine (A18 _ _).trans ?_;rw [A4m,Ty.put_eq]
   by_cases h6:t.kind=6
   ·have loop:∀ (m i:Nat),i+m=l.length->Tp (run cfg) (M6 l) (.int .i64 i) t.enc=some ((look (l.drop i) t.n).getD t).enc:=by
     intro m
     induction m with
     | zero =>
       intro i hi;have:¬ i<l.length:=by omega
       rw [YQ,zbq (by omega)]
       simp [this,look,Ty.Q9,Ty.ag]
     | succ m ihm =>
       intro i hi;have h:i<l.length:=by omega
       have nx:=ihm (i+1) (by omega)
       push_cast at nx;have e1:F5 4 (M6 l) (.int .i64 (i:Int))=some (U7 l[i]):=I8 h;rw [YQ,z2q h]
       by_cases e:l[i].1=t.n
       ·simp only [look,ycq,e,decide_true]
        simp [h,e1,e,Ty.Q9,Ty.ag]
       ·simp only [look,ycq,e,decide_false] at nx ⊢
        simp [h,e1,e,N9 (show i<9223372036854775807 by omega),nx]
    have l0:=loop l.length 0 (by omega)
    simp only [zhq,zmq,zaq,zcq] at l0;simp [h6,l0]
   ·have loop:=JU (l:=t.kids) (P:=fun j (a:List Ty)=>RD (run cfg) (M6 l) (.int .i64 j) t.enc (.int .i64 t.kind) (.list 3 (a.map Ty.enc)))
     (g:=fun a k=>a++[k.put l]) (fin:=fun a=>some (Ty.mk t.kind 0 a).enc) (I:=fun j a=>a.length=j)
     (fun a _=>by rw [Vp];simp [Ty.C0q])
     (fun j h a ha=>by
       refine ⟨?_,by simp [ha]⟩
       rw [Vp];have:=GZ (e:=Ty.enc) (sz:=3) (l:=a) (x:=t.kids[j].put l) (by unfold lim;omega)
       simp [h,I8 h,Ty.Q9,Ty.ag,ih _ (z1q h) (Ty.BU ht (z1q h)),this,N9 (show j<9223372036854775807 by omega)]) [] rfl
    have e:∀ (m:List Ty) (a:List Ty),m.foldl (fun a k=>a++[k.put l]) a=a++m.map (Ty.put l):=by
     intro m
     induction m with
     | nil=>intro a;simp
     | cons x m ih=>intro a;simp [ih]
    rw [e] at loop;simp only [zAq,zoq] at loop;have hn0:t.n=0:=by have:=(Ty.GD.1 ht).2.2.2.1;omega
    simp [h6,hn0,loop]
theorem A9S (h:vs.length=ts.length) (hl:vs.length<=lim):(run cfg).p iw [J9 vs, .list 3 (ts.map Ty.enc)]=some (M6 (vs.zip ts)):=by
 have hb:=big hl;refine (tN _ _).trans ?_;rw [xD];have loop:∀ (m i:Nat),i+m=vs.length->Ou (run cfg) (J9 vs) (.list 3 (ts.map Ty.enc)) (M6 ((vs.take i).zip (ts.take i))) (.int .i64 i)=some (M6 (vs.zip ts)):=by
  intro m
  induction m with
  | zero =>
    intro i hi;have:¬ i<vs.length:=by omega
    rw [z8q (by omega),z8q (by omega),UM]
    simp [this]
  | succ m ihm =>
    intro i hi;have h1:i<vs.length:=by omega
    have h2:i<ts.length:=by omega
    have nx:=ihm (i+1) (by omega)
    rw [B5l _ _ _ h1 h2] at nx;push_cast at nx;have hap:Be 4 (M6 ((vs.take i).zip (ts.take i))) (.list 4 [.agg [.int .i64 vs[i], .int .i64 ts[i].kind, .int .i64 ts[i].n, .list 3 (ts[i].kids.map Ty.enc)]])=some (M6 ((vs.take i).zip (ts.take i)++[(vs[i],ts[i])])) :=
     GZ (e:=U7) (sz:=4) (l:=(vs.take i).zip (ts.take i)) (x:=(vs[i],ts[i])) (by rw [zXq,zEq,zEq];omega)
    rw [UM];simp [h1,Hm h1,I8 h2,hap,N9 (show i<9223372036854775807 by omega),nx]
 have:=loop vs.length 0 (by omega)
 simp only [y1q,List.zip_nil_left,zhq,zmq,zaq] at this;exact this
theorem cd1 (e:Int):X5 [((.int .i64 e:DV),Meta.val)] 0=some (.int .i64 e):=rfl
theorem e4:B7a 4 := .inl rfl
theorem e6:B7a 6 := .inr (.inl rfl)
theorem XU {a b:List ByteArray} (h:a.length+b.length<=lim):Be 1 (J7 a) (J7 b)=some (J7 (a++b)):=by
 show Be 1 (.list 1 (a.map DV.str)) (.list 1 (b.map DV.str))=_
 rw [Sn (by simpa using h)]
 simp [J7]
theorem Fg:(.list 1 []:DV)=J7 []:=rfl
theorem Jf:(.list 1 [.str s]:DV)=J7 [s]:=rfl
theorem A1w (t:ByteArray):(.list 1 [.str s, .str t]:DV)=J7 [s,t]:=rfl
theorem A3i (t:D5):∀ (l:List ByteArray) (sg:List D8),l.length+t.size<=lim->(run cfg).r M_ [(t.enc, .val),(J7 l, .own)] sg=some ([J7 (t.Cc l)],sg):=by
 induction t using D5.ind with
 | h t ih =>
   intro l sg hl;have hb:=D5.D_ _ (D5.Dk (show t.size<=lim by omega))
   have hB:=big hl;refine (ZG _ _ _).trans ?_;have loop:∀ l:List ByteArray,l.length+(t.kids.map D5.size).sum<=lim->ED (run cfg) (J7 l) (.list 7 (t.kids.map D5.enc)) (.int .i64 t.kids.length) (.int .i64 0) sg=some ([J7 (t.kids.foldl (fun l k=>k.Cc l) l)],sg) :=
    JU (l:=t.kids) (P:=fun i (a:List ByteArray)=>ED (run cfg) (J7 a) (.list 7 (t.kids.map D5.enc)) (.int .i64 t.kids.length) (.int .i64 i) sg) (g:=fun a k=>k.Cc a) (fin:=fun a=>some ([J7 a],sg))
     (I:=fun i a=>a.length+((t.kids.drop i).map D5.size).sum<=lim)
     (fun a _=>by rw [Mq];simp)
     (fun i h a ha=>by
       rw [z2q h,zlq,zsq] at ha;have h1:=D5.Ql t.kids[i] a;refine ⟨?_,by omega⟩
       rw [Mq];simp [h,I8 h,D5.Q9,D5.ag,ih _ (z1q h) a sg (by omega),N9 (show i<9223372036854775807 by omega)])
   have Aa:=D5.size_eq t;rw [bS,D5.Ll];simp
   by_cases h6:t.kind=2
   ·simp [h6]
    rw [show J7 l = .list 1 (l.map fun n => .str n) from rfl,Sn (by simp;omega)]
    have:=loop (l++[t.name]) (by simp;omega)
    simpa [J7] using this
   ·simp [h6,loop l (by omega)]
variable (t:Tm)
theorem um (ht:t.Mr) (i:Nat) (hi:t.kind=14->i<=t.H6.length):(run cfg).p TS [t.enc, .int .i64 i]=some (J7 (t.binds i)):=by
 have hp:=big (z7q ht.H6);refine (mJ _ _).trans ?_;have p5:¬ (t.kind=9\/(t.kind=11/\i=1)\/(t.kind=12/\i=1))->Hz (run cfg) (.int .i64 i) t.enc=some (J7 (t.binds i)):=by
  intro h;rw [gM];unfold Tm.binds;rw [if_neg h]
  by_cases h1:t.kind=12
  ·simp [h1,A1w]
  ·by_cases h2:t.kind=14
   ·by_cases h3:0<i
    ·have M4:i-1<t.H6.length:=by have:=hi h2;omega
     have e1:A8 .sub (.int .i64 (i:Int)) (.int .i64 1)=some (.int .i64 ((i-1:Nat):Int)):=by
      rw [IU,U2 (by omega) (by have:=hi h2;omega)]
      congr 3
      omega
     have nm:=A3i t.H6[i-1] [] [] (by have:=(ht.pat _ (z1q M4)).size;simpa using this)
     rw [<- Fg] at nm;simp [h1,h2,h3,e1,I8 M4,D5.Q9,D5.ag,nm,z4q M4,D5.names]
    ·simp [h1,h2,h3,Fg]
   ·simp [h1,h2,Fg]
 have one:t.kind=9\/(t.kind=11/\i=1)\/(t.kind=12/\i=1)->t.binds i=[t.name]:=fun h=>by unfold Tm.binds;rw [if_pos h]
 rw [r_];have i1:decide ((i:Int)=1)=decide (i=1):=by rw [decide_eq_decide];omega
 by_cases h9:t.kind=9
 ·simp [h9,one (.inl h9),Jf]
 ·by_cases Qf:t.kind=11
  ·by_cases h1:i=1
   ·have o1:=one (.inr (.inl ⟨Qf,h1⟩))
    subst h1;simp [Qf,o1,Jf]
   ·have:=p5 (by rintro (h | h | h);exact h9 h;exact h1 h.2;exact h1 h.2)
    simp [Qf,h1,i1,this]
  ·by_cases Qg:t.kind=12
   ·by_cases h1:i=1
    ·have o1:=one (.inr (.inr ⟨Qg,h1⟩))
     subst h1;simp [Qg,o1,Jf]
    ·have:=p5 (by rintro (h | h | h);exact h9 h;exact h1 h.2;exact h1 h.2)
     simp [Qg,h1,i1,this]
   ·have:=p5 (by rintro (h | h | h);exact h9 h;exact Qf h.1;exact Qg h.1)
    simp [h9,Qf,Qg,this]
theorem fG (ht:t.Mr) (i:Nat) (hi:t.kind=14->i<=t.H6.length):(run cfg).p QR [t.enc, .int .i64 i]=some (J7 (t.binds i)):=by
 have hp:=big (z7q ht.H6);refine (tO _ _).trans ?_;have p5:¬ (t.kind=9\/(t.kind=11/\i=1)\/(t.kind=12/\i=1))->Iq (run cfg) (.int .i64 i) t.enc=some (J7 (t.binds i)):=by
  intro h;rw [lC];unfold Tm.binds;rw [if_neg h]
  by_cases h1:t.kind=12
  ·simp [h1,A1w]
  ·by_cases h2:t.kind=14
   ·by_cases h3:0<i
    ·have M4:i-1<t.H6.length:=by have:=hi h2;omega
     have e1:A8 .sub (.int .i64 (i:Int)) (.int .i64 1)=some (.int .i64 ((i-1:Nat):Int)):=by
      rw [IU,U2 (by omega) (by have:=hi h2;omega)]
      congr 3
      omega
     have nm:=zy t.H6[i-1] (ht.pat _ (z1q M4)).size;simp [h1,h2,h3,e1,I8 M4,D5.Q9,D5.ag,nm,z4q M4]
    ·simp [h1,h2,h3,Fg]
   ·simp [h1,h2,Fg]
 have one:t.kind=9\/(t.kind=11/\i=1)\/(t.kind=12/\i=1)->t.binds i=[t.name]:=fun h=>by unfold Tm.binds;rw [if_pos h]
 rw [xE];have i1:decide ((i:Int)=1)=decide (i=1):=by rw [decide_eq_decide];omega
 by_cases h9:t.kind=9
 ·simp [h9,one (.inl h9),Jf]
 ·by_cases Qf:t.kind=11
  ·by_cases h1:i=1
   ·have o1:=one (.inr (.inl ⟨Qf,h1⟩))
    subst h1;simp [Qf,o1,Jf]
   ·have:=p5 (by rintro (h | h | h);exact h9 h;exact h1 h.2;exact h1 h.2)
    simp [Qf,h1,i1,this]
  ·by_cases Qg:t.kind=12
   ·by_cases h1:i=1
    ·have o1:=one (.inr (.inr ⟨Qg,h1⟩))
     subst h1;simp [Qg,o1,Jf]
    ·have:=p5 (by rintro (h | h | h);exact h9 h;exact h1 h.2;exact h1 h.2)
     simp [Qg,h1,i1,this]
   ·have:=p5 (by rintro (h | h | h);exact h9 h;exact Qf h.1;exact Qg h.1)
    simp [h9,Qf,Qg,this]
variable (l:List ByteArray)
theorem B0X (s:ByteArray) (hl:l.length+1<=lim):(run cfg).p nU [J7 l, .str s]=some (J7 (rise l s)):=by
 have hb:=big hl;refine (xw _ _).trans ?_;rw [A1L];have p6:∀ i,i<=l.length->Tn (run cfg) (J7 l) (.str s) (.int .i64 (i:Int))=some (J7 (l.take i++s::l.drop i)):=by
  intro i hi;have e1:CP 1 (J7 l) none (some (.int .i64 (i:Int)))=some (J7 (l.take i)):=A4g hi 1;have e2:CP 1 (J7 l) (some (.int .i64 (i:Int))) none=some (J7 (l.drop i)):=by simp [CP,bnd,hi,J7,List.map_drop,z8q]
  rw [rM];simp only [e1,e2,E9,Fg,Jf,Uo,D6];rw [XU (by simp;omega)]
  simp only [E9];rw [XU (by simp;omega)]
  simp only [E9];rw [XU (by simp;omega)]
  simp
 have p4:∀ i,i<=l.length->(∀ (h:i<l.length),qG l[i] s=false)->Tk (run cfg) (J7 l) (.str s) (.int .i64 (i:Int))=some (J7 (l.take i++rise (l.drop i) s)):=by
  intro i hi hn;rw [rJ]
  by_cases h:i<l.length
  ·have h0:=hn h
   rw [z2q h];simp only [XV,E9,H7,zeq,h,decide_true,H5,if_true,Ku h,Zl,D6,JJ,C8,decide_eq_true_eq,rise,h0,z0q,if_false]
   by_cases he:l[i]=s
   ·simp only [he,if_true]
    congr 2
    rw [<- he,<- z2q h,List.take_append_drop]
   ·simp only [he,if_false]
    rw [p6 i hi,z2q h]
  ·have e:i=l.length:=by omega
   subst e;simp only [XV,E9,H7,ziq,decide_false,H5,z0q,if_false,zpq,rise];rw [p6 _ (zgq _),zpq]
 have loop:∀ (n i:Nat),i+n=l.length->Q_ (run cfg) (J7 l) (.str s) (.int .i64 (i:Int))=some (J7 (l.take i++rise (l.drop i) s)):=by
  intro n
  induction n with
  | zero =>
    intro i hi;have e:i=l.length:=by omega
    have:=p4 i (by omega) (fun h=>by omega)
    subst e;rw [Vl];simp only [XV,E9,H7,ziq,decide_false,H5,z0q,if_false];exact this
  | succ n ih =>
    intro i hi;have h:i<l.length:=by omega
    rw [Vl];simp only [XV,E9,H7,zeq,h,decide_true,H5,if_true,Ku h,Zl,D6,B3K,C8];cases h0:qG l[i] s
    ·exact p4 i (by omega) (fun _=>h0)
    ·simp only [if_true]
     rw [N9 (by omega)]
     simp only [E9];rw [ih (i+1) (by omega)]
     rw [z2q h];simp only [rise,h0,if_true];rw [z5q h,zvq];rfl
 have:=loop l.length 0 (by omega)
 simpa using this
theorem B02:t.fit->t.right=true->∀ (B l:List ByteArray),B.length+2 * t.N8<=lim->l.length+t.size<=lim ->
 (run cfg).p ZX [t.enc,J7 B,J7 l]=some (J7 ((t.fr B).foldl rise l)):=by
 induction t using Tm.ind with
 | h t ih =>
   intro ft rt B l hB hl;have hk:=big (z7q ft.one.kids);have loop:∀ (n j:Nat) (l:List ByteArray),j+n=t.kids.length->l.length+((t.kids.drop j).map Tm.size).sum<=lim ->
    RH (run cfg) (J7 B) (J7 l) (.int .i64 (j:Int)) t.enc=some (J7 ((Tm.gy t.binds j (t.kids.drop j) B).foldl rise l)):=by
    intro n
    induction n with
    | zero =>
      intro j l hj _;have e:j=t.kids.length:=by omega
      subst e;rw [Vr,zpq,Tm.A0A];simp
    | succ n ihn =>
      intro j l hj hl;have h:j<t.kids.length:=by omega
      have hm:=t.A6p j;have uR:=Ki (f:=Tm.N8) (z1q h);rw [z2q h,zlq,zsq] at hl;have iA:=fG t ft.one j (fun yz=>by have:=Tm.zO rt yz;omega)
      have C2U:=ih _ (z1q h) (ft.kid (z1q h)) (Tm.BU rt (z1q h)) (B++t.binds j) l (by simp;omega) (by omega)
      have Dh:((t.kids[j].fr (B++t.binds j)).foldl rise l).length<=l.length+t.kids[j].size:=by
       have h1:=A65 l (t.kids[j].fr (B++t.binds j));have h2:=t.kids[j].A4I (B++t.binds j);omega
      have nx:=ihn (j+1) ((t.kids[j].fr (B++t.binds j)).foldl rise l) (by omega) (by omega)
      rw [Vr];simp only [Tm.Cs,K5,z3q,E9,H7,zeq,h,decide_true,C8,if_true,I8 h,Tm.Q9,Tm.ag,Fg];rw [XU (by simp;omega)]
      simp only [E9,zoq];have ee:(DV.agg [A7 0 t.enc,A7 1 t.enc,A7 2 t.enc,A7 3 t.enc,A7 4 t.enc,A7 5 t.enc,A7 6 t.enc,A7 7 t.enc,A7 8 t.enc,A7 9 t.enc,A7 10 t.enc,A7 11 t.enc,A7 12 t.enc,A7 13 t.enc,A7 14 t.enc,A7 15 t.enc,A7 16 t.enc,A7 17 t.enc,A7 18 t.enc,A7 19 t.enc])=t.enc:=by simp [Tm.Q9,Tm.ag]
      have ek:(DV.agg [A7 0 t.kids[j].enc,A7 1 t.kids[j].enc,A7 2 t.kids[j].enc,A7 3 t.kids[j].enc,A7 4 t.kids[j].enc,A7 5 t.kids[j].enc,A7 6 t.kids[j].enc,A7 7 t.kids[j].enc,A7 8 t.kids[j].enc,A7 9 t.kids[j].enc,A7 10 t.kids[j].enc,A7 11 t.kids[j].enc,A7 12 t.kids[j].enc,A7 13 t.kids[j].enc,A7 14 t.kids[j].enc,A7 15 t.kids[j].enc,A7 16 t.kids[j].enc,A7 17 t.kids[j].enc,A7 18 t.kids[j].enc,A7 19 t.kids[j].enc])=t.kids[j].enc:=by simp [Tm.Q9,Tm.ag]
      simp only [Tm.Cs] at ee ek
      try rw [ee]
      try rw [ek]
      rw [iA];simp only [E9];rw [XU (by omega)]
      simp only [E9,C2U];rw [N9 (by omega)]
      simp only [E9,nx];rw [z2q h,Tm.oW,List.foldl_append]
   have Aa:=t.size_eq;have p3:∀ l:List ByteArray,l.length+(t.kids.map Tm.size).sum<=lim->Nn (run cfg) (J7 B) (J7 l) t.enc=some (J7 ((Tm.gy t.binds 0 t.kids B).foldl rise l)):=by
    intro l hl;rw [rV];have:=loop t.kids.length 0 l (by omega) (by simpa using hl)
    simpa using this
   refine (yB _ _ _).trans ?_;rw [A1R,Tm.A4H];have hh:=Zy B (by omega) t.name
   have hr:=B0X l t.name (by omega)
   have p3a:=p3 l (by omega)
   have p3b:=p3 (rise l t.name) (by have:=A9t l t.name;omega)
   by_cases h1:t.kind=1
   ·cases h2:SK B t.name
    ·have Pq:(B.any fun x=>decide (x=t.name))=false:=h2
     simp [h1,hh,h2,Pq,hr,p3b]
    ·have Pq:(B.any fun x=>decide (x=t.name))=true:=h2
     simp only [F9,D6,Tm.Y3,Tm.CU,M0,E9,H5,h1,decide_true,if_true,hh,h2,M8,z9q,C8,z0q,if_false,p3a,Pq,and_false,reduceCtorEq,zoq]
   ·simp [h1,p3a]
theorem jg (ft:t.fit) (rt:t.right=true) (hm:2 * t.N8<=lim):(run cfg).p TM [t.enc]=some (J7 t.free):=by
 refine (xz _).trans ?_;rw [A1O];have hs:=t.TE;have:=B02 t ft rt [] [] (by simpa using hm) (by simp;omega)
 rw [<- Fg] at this;simp [Tm.Q9,Tm.ag,this,Tm.free]
variable (L:List ByteArray)
def cn (s:ByteArray):Int:=((L.countP fun x=>decide (x=s)):Nat)
theorem B3G (s:ByteArray):0<=cn L s:=by unfold cn;omega
theorem B67 (s:ByteArray):cn L s<=L.length:=by
 unfold cn;have:=List.countP_le_length (p:=fun x=>decide (x=s)) (l:=L)
 omega
theorem B1e (s:ByteArray):decide (cn L s=0) = !(L.any fun x=>decide (x=s)):=by
 unfold cn;rw [zIq];simp only [decide_eq_true_eq,z6q,List.any_eq_false,decide_eq_true_eq];rw [show ((L.countP fun x=>decide (x=s):Nat):Int)=0 ↔ (L.countP fun x=>decide (x=s))=0 by omega,List.countP_eq_zero]
 simp
theorem B9F {L:List ByteArray} (h:LB es (cn L)) (s:ByteArray):LB (BC es (.str s) (.int .i64 (cn L s+1))) (cn (L++[s])):=by
 intro v;rw [h.set s (cn L s+1) v]
 congr 1
 unfold cn
 by_cases e:s=v
 ·subst e;simp [zHq]
 ·simp [zHq,e]
theorem B9E {A D:List ByteArray} {s:ByteArray} (h:LB es (cn (A++s::D))):LB (BC es (.str s) (.int .i64 (cn (A++s::D) s-1))) (cn (A++D)):=by
 intro v;rw [h.set s (cn (A++s::D) s-1) v]
 congr 1
 unfold cn
 by_cases e:s=v
 ·subst e;simp [zHq];omega
 ·simp [zHq,e]
def VP (O B:List (DV × DV)):List D8:=[.map true O, .map true B]
theorem A92:t.fit->t.right=true->∀ (O B:List (DV × DV)) (P:ByteArray->Prop) (L:List ByteArray),CY O P->LB B (cn L)->L.length+2 * t.N8<=lim ->
 ∃ O' B',(run cfg).r MX [(t.enc, .val),(.undef, .map 1),(.undef, .map 0)] (VP O B)=some ([],VP O' B')/\CY O' (fun s=>P s\/s∈t.fr L)/\LB B' (cn L):=by
 induction t using Tm.ind with
 | h t ih =>
   intro ft rt O B P L hO hB hL;have hk:=big (z7q ft.one.kids);have hm0:=t.WI;have l14:∀ (l:List ByteArray) (i:DV) (k:Nat),L.length+l.length<=lim->∀ (n j:Nat) (O B:List (DV × DV)),j+n=l.length->LB B (cn (L++l.drop j)) ->
    ∃ B',GL (run cfg) 1 0 (.list 20 (t.kids.map Tm.enc)) (.int .i64 t.kids.length) i (J7 l) (.int .i64 l.length) (.int .i64 (j:Int)) t.enc (VP O B) =
      (ob (A8 .add i (.int .i64 1)) fun d=>KN (run cfg) 1 0 (.list 20 (t.kids.map Tm.enc)) (.int .i64 t.kids.length) d t.enc (VP O B'))/\LB B' (cn L):=by
    intro l i _ hl n;have hlb:=big hl
    induction n with
    | zero =>
      intro j O B hj hc;have e:j=l.length:=by omega
      subst e;refine ⟨B, ?_,by rwa [zpq,zOq] at hc⟩
      rw [Ry];simp
    | succ n ihn =>
      intro j O B hj hc;have h:j<l.length:=by omega
      rw [z2q h] at hc;obtain ⟨B',h1,h2⟩:=ihn (j+1) O (BC B (.str l[j]) (.int .i64 (cn (L++l[j]::l.drop (j+1)) l[j]-1))) (by omega) (B9E hc)
      refine ⟨B', ?_,h2⟩;rw [Ry];have c1:=hc l[j];have c2:=B3G (L++l[j]::l.drop (j+1)) l[j];have c3:=B67 (L++l[j]::l.drop (j+1)) l[j];have c4:(L++l[j]::l.drop (j+1)).length<=4294967296:=by simp;unfold lim at hl;omega
      have e1:A8 .sub (.int .i64 (cn (L++l[j]::l.drop (j+1)) l[j])) (.int .i64 1)=some (.int .i64 (cn (L++l[j]::l.drop (j+1)) l[j]-1)):=by
       rw [IU,U2 (by omega) (by omega)]
      simp only [H7,zeq,h,decide_true,E9,C8,if_true,Ku h,Zl,D6,Xi,zDq,VP,Av,znq,zkq,BEq.rfl,c1,e1,N9 (show j<9223372036854775807 by omega),zPq,zwq]
      exact h1
   have l8:∀ (l:List ByteArray) (i:DV) (k:Tm) (O:List (DV × DV)) (Z:List (DV × DV)->Option (List DV × List D8)),L.length+l.length<=lim->(∀ B,LB B (cn (L++l))->(ob ((run cfg).r MX [(k.enc, .val),(.undef, .map 1),(.undef, .map 0)] (VP O B)) fun q=>GL (run cfg) 1 0 (.list 20 (t.kids.map Tm.enc)) (.int .i64 t.kids.length) i (J7 l) (.int .i64 l.length) (.int .i64 0) t.enc q.2)=Z B) ->
    ∀ (n j:Nat) (B:List (DV × DV)),j+n=l.length->LB B (cn (L++l.take j)) ->
    ∃ B',KO (run cfg) 1 0 (J7 l) (.list 20 (t.kids.map Tm.enc)) (.int .i64 t.kids.length) i (J7 l) (.int .i64 l.length) (.int .i64 (j:Int)) t.enc k.enc (VP O B)=Z B'/\LB B' (cn (L++l)):=by
    intro l i k O Z hl hZ n;have hlb:=big hl
    induction n with
    | zero =>
      intro j B hj hc;have e:j=l.length:=by omega
      subst e;rw [zJq] at hc;refine ⟨B, ?_,hc⟩;rw [UU,<- hZ B hc];simp [Tm.Q9,Tm.ag]
    | succ n ihn =>
      intro j B hj hc;have h:j<l.length:=by omega
      have hc':=B9F hc l[j];rw [zvq,<- z5q h] at hc';obtain ⟨B',h1,h2⟩:=ihn (j+1) (BC B (.str l[j]) (.int .i64 (cn (L++l.take j) l[j]+1))) (by omega) hc'
      refine ⟨B', ?_,h2⟩;rw [UU];have c1:=hc l[j];have c2:=B3G (L++l.take j) l[j];have c3:=B67 (L++l.take j) l[j];have c4:(L++l.take j).length<=4294967296:=by simp;unfold lim at hl;omega
      simp only [H7,zeq,h,decide_true,E9,C8,if_true,Ku h,Zl,D6,Xi,zDq,VP,Av,znq,zkq,BEq.rfl,c1,Nt (show (-9223372036854775808:Int)<=cn (L++l.take j) l[j]+1 by omega) (show cn (L++l.take j) l[j]+1<=9223372036854775807 by omega),N9 (show j<9223372036854775807 by omega),zPq,zwq]
      exact h1
   have l4:∀ (n j:Nat) (O B:List (DV × DV)) (P:ByteArray->Prop),j+n=t.kids.length->CY O P->LB B (cn L) ->
    ∃ O' B',KN (run cfg) 1 0 (.list 20 (t.kids.map Tm.enc)) (.int .i64 t.kids.length) (.int .i64 (j:Int)) t.enc (VP O B)=some ([],VP O' B')/\CY O' (fun s=>P s\/s∈Tm.gy t.binds j (t.kids.drop j) L)/\LB B' (cn L):=by
    intro n
    induction n with
    | zero =>
      intro j O B P hj hO hB;have e:j=t.kids.length:=by omega
      subst e;refine ⟨O,B, ?_, ?_,hB⟩
      ·rw [UT];simp
      ·rw [zpq,Tm.A0A]
       exact hO.congr fun s=>by simp
    | succ n ihn =>
      intro j O B P hj hO hB;have h:j<t.kids.length:=by omega
      have hm:=t.A6p j;have uR:=Ki (f:=Tm.N8) (z1q h);have iA:=um t ft.one j (fun yz=>by have:=Tm.zO rt yz;omega)
      have hll:L.length+(t.binds j).length<=lim:=by omega
      obtain ⟨O1,k1,k2,k3,k4⟩:∃ O1 B1,(KO (run cfg) 1 0 (J7 (t.binds j)) (.list 20 (t.kids.map Tm.enc)) (.int .i64 t.kids.length) (.int .i64 (j:Int)) (J7 (t.binds j)) (.int .i64 (t.binds j).length) (.int .i64 0) t.enc t.kids[j].enc (VP O B) =
       GL (run cfg) 1 0 (.list 20 (t.kids.map Tm.enc)) (.int .i64 t.kids.length) (.int .i64 (j:Int)) (J7 (t.binds j)) (.int .i64 (t.binds j).length) (.int .i64 0) t.enc (VP O1 B1))/\CY O1 (fun s=>P s\/s∈t.kids[j].fr (L++t.binds j))/\LB B1 (cn (L++t.binds j)):=by
       obtain ⟨B',e1,e2⟩:=l8 (t.binds j) (.int .i64 (j:Int)) t.kids[j] O _ hll (fun B _=>rfl) (t.binds j).length 0 B (by omega) (by rw [y1q,zOq];exact hB)
       obtain ⟨O1,B1,f1,f2,f3⟩:=ih _ (z1q h) (ft.kid (z1q h)) (Tm.BU rt (z1q h)) O B' P (L++t.binds j) hO e2 (by simp;omega)
       refine ⟨O1,B1, ?_,f2,f3⟩;simp only [zhq,zmq,zaq] at e1;rw [e1,f1];rfl
      obtain ⟨B2,g1,g2⟩:=l14 (t.binds j) (.int .i64 (j:Int)) j hll (t.binds j).length 0 O1 k1 (by omega) (by rw [zcq];exact k4)
      obtain ⟨O',B',i1,i2,i3⟩:=ihn (j+1) O1 B2 _ (by omega) k3 g2
      refine ⟨O',B', ?_, ?_,i3⟩
      ·rw [UT]
       have ee:(DV.agg [A7 0 t.enc,A7 1 t.enc,A7 2 t.enc,A7 3 t.enc,A7 4 t.enc,A7 5 t.enc,A7 6 t.enc,A7 7 t.enc,A7 8 t.enc,A7 9 t.enc,A7 10 t.enc,A7 11 t.enc,A7 12 t.enc,A7 13 t.enc,A7 14 t.enc,A7 15 t.enc,A7 16 t.enc,A7 17 t.enc,A7 18 t.enc,A7 19 t.enc])=t.enc:=by simp [Tm.Q9,Tm.ag]
       simp only [H7,zeq,h,decide_true,E9,C8,if_true,I8 h,ee,iA,XV,k2];simp only [zhq,zmq,zaq] at g1;rw [g1,N9 (by omega)]
       exact i1
      ·refine i2.congr fun s => ?_
       rw [z2q h,Tm.oW,zCq,or_assoc]
   have l3:∀ (O B:List (DV × DV)) (P:ByteArray->Prop),CY O P->LB B (cn L)->∃ O' B',MF (run cfg) 1 0 t.enc (VP O B)=some ([],VP O' B')/\CY O' (fun s=>P s\/s∈Tm.gy t.binds 0 t.kids L)/\LB B' (cn L):=by
    intro O B P hO hB;obtain ⟨O',B',h1,h2,h3⟩:=l4 t.kids.length 0 O B P (by omega) hO hB
    refine ⟨O',B', ?_,by simpa using h2,h3⟩
    rw [lM];simpa using h1
   by_cases h1:t.kind=1/\(L.any fun x=>decide (x=t.name))=false
   ·obtain ⟨cnt,C2P⟩:=hO.get t.name
    obtain ⟨O',B',e1,e2,e3⟩:=l3 (BC O (.str t.name) (.int .i64 (IntKind.i64.wrap (cnt+1)))) B _ (hO.set t.name _) hB;refine ⟨O',B',(YV _ _ _ _).trans ?_, ?_,e3⟩
    ·have cb:=hB t.name
     have cz:=B1e L t.name;rw [h1.2,zrq] at cz;rw [bR];simp only [F9,D6,Tm.Y3,Tm.CU,M0,E9,H5,h1.1,decide_true,if_true,Xi,zDq,VP,Av,znq,zkq,BEq.rfl,cb,cz,C8,C2P,U9,zwq];exact e1
    ·refine e2.congr fun s => ?_
     rw [Tm.A4H,if_pos h1];simp only [zCq,zGq];constructor
     ·rintro ((h | h) | h)
      ·exact .inr (.inl h)
      ·exact .inl h
      ·exact .inr (.inr h)
     ·rintro (h | h | h)
      ·exact .inl (.inr h)
      ·exact .inl (.inl h)
      ·exact .inr h
   ·obtain ⟨O',B',e1,e2,e3⟩:=l3 O B P hO hB
    refine ⟨O',B',(YV _ _ _ _).trans ?_, ?_,e3⟩
    ·have cb:=hB t.name
     have cz:=B1e L t.name;rw [bR]
     by_cases zF:t.kind=1
     ·have:(L.any fun x=>decide (x=t.name))=true:=by
       cases hh:L.any fun x=>decide (x=t.name)
       ·exact absurd ⟨zF,hh⟩ h1
       ·rfl
      rw [this,z9q] at cz;simp only [F9,D6,Tm.Y3,Tm.CU,M0,E9,H5,zF,decide_true,if_true,Xi,zDq,VP,Av,znq,zkq,BEq.rfl,cb,cz,C8,z0q,if_false];exact e1
     ·simp only [F9,D6,Tm.Y3,M0,E9,H5,zF,decide_false,z0q,if_false]
      exact e1
    ·refine e2.congr fun s => ?_
     rw [Tm.A4H,if_neg h1,zoq]
theorem A91 (ft:t.fit) (hm:2 * t.N8<=lim):(run cfg).p Wh [t.enc]=some (J7 (if t.right=true then t.free else [])):=by
 refine (tZ _).trans ?_;rw [xL];cases rt:t.right
 ·simp [Tm.Q9,Tm.ag,Yo t ft,rt,Fg]
 ·obtain ⟨O',B',h1,h2,-⟩:=A92 t ft rt [] [] _ [] CY.nil (fun v=>rfl) (by simpa using hm)
  have h3:CY O' fun s=>s∈t.free:=h2.congr fun s=>by rw [Tm.pG];simp
  obtain ⟨h4,h5⟩:=A51 h3 t.B2d;have Dh:O'.length<=lim:=by
   have:=t.B5X;have:=t.TE;omega
  have h1':(run cfg).r MX [(t.enc, .val),(.undef, .map 1),(.undef, .map 0)] [.map true [], .map true []]=some ([],VP O' B'):=h1;simp [Tm.Q9,Tm.ag,Yo t ft,rt,h1',VP,Av,Dh,h4]
theorem A3g (hl:l.length<=lim) (n:ByteArray):∃ k:Int,(run cfg).p FD [J7 l, .str n]=some (.int .i64 k)/\(0<=k ↔ (l.any fun x=>decide (x=n))=true):=by
 have hb:=big hl;have loop:∀ (m i:Nat),i+m=l.length->∃ k:Int,Bc (run cfg) (J7 l) (.str n) (.int .i64 l.length) (.int .i64 i)=some (.int .i64 k)/\(0<=k ↔ ((l.drop i).any fun x=>decide (x=n))=true):=by
  intro m
  induction m with
  | zero =>
    intro i hi;refine ⟨-1, ?_, ?_⟩
    ·have:¬ i<l.length:=by omega
     rw [De];simp [this]
    ·rw [zbq (by omega)];simp
  | succ m ih =>
    intro i hi;have h:i<l.length:=by omega
    rw [De,z2q h]
    by_cases e:n=l[i]
    ·refine ⟨i,by simp [h,Ku h,e], ?_⟩
     simp [<- e]
    ·obtain ⟨k,h1,h2⟩:=ih (i+1) (by omega)
     push_cast at h1;refine ⟨k,by simp [h,Ku h,e,N9 (show i<9223372036854775807 by omega),h1], ?_⟩
     rw [h2,List.any_cons];have:decide (l[i]=n)=false:=by simpa using fun h'=>e h'.symm
     rw [this,ygq]
 obtain ⟨k,h1,h2⟩:=loop l.length 0 (by omega)
 refine ⟨k,(Ij _ _).trans ?_,by simpa using h2⟩
 rw [JN];simpa using h1
theorem vF (hl:l.length<=lim) (n:ByteArray):(run cfg).p Dv [J7 l, .str n]=some (.bool (l.any fun x=>decide (x=n))):=by
 refine (Gt _ _).trans ?_;rw [Ho];obtain ⟨k,h1,h2⟩:=A3g l hl n;simp only [h1,E9,IR]
 congr 2
 rw [zIq,<- h2];simp
theorem Tm.fK (ks:List Tm):DV.agg [.int .i64 t.kind, .int .i64 t.lo, .int .i64 t.hi, .str t.name, .str t.arg, .int .i64 t.n, .str t.s, .int .i64 t.op, .int .i64 t.label, .bool t.neg,J9 t.vars, .int .i64 t.a.kind, .int .i64 t.a.n, .list 3 (t.a.kids.map Ty.enc), .int .i64 t.b.kind, .int .i64 t.b.n, .list 3 (t.b.kids.map Ty.enc), .list 3 (t.args.map Ty.enc), .list 7 (t.H6.map D5.enc), .list 20 (ks.map Tm.enc)]=(t.V4 ks).enc:=by
 rw [Tm.H8];rfl
variable (S:List D8)
theorem iT (J:List D8) (z:Nat) (l:List DV):BN (S ++ .arr z l::J) S.length=some (z,l):=by
 unfold BN;rw [List.getElem?_append_right (zgq _),Nat.sub_self];rfl
theorem iU {S:List D8} {c:List (DV × Meta)} (h:M5 S 0=some c) (J:List D8):M5 (S++J) 0=some c:=by
 have hl:=WR h;unfold M5 at h ⊢;rw [List.getElem?_append_left hl];exact h
theorem B1A (J:List D8) (x y:D8):(S++x::J).set S.length y=S++y::J:=by
 rw [List.set_append_right _ _ (zgq _),Nat.sub_self];rfl
def inLoop (m n:Nat) (j:Int) (sg:List D8):Option (List DV × List D8) :=
 EE (run cfg) 0 m n m n (.int .i64 n) (.int .i64 j) t.enc sg
theorem C0g (J:List D8) (cur:List Tm) (hc:cur.length=t.kids.length) :
 inLoop t S.length t.kids.length t.kids.length (S ++ .arr 20 (cur.map Tm.enc)::J)=some ([(t.V4 cur).enc, .bool true],S ++ .arr 1 []::J):=by
 unfold inLoop;rw [Df];have e1:A8 .lss (.int .i64 (t.kids.length:Int)) (.int .i64 (t.kids.length:Int))=some (.bool false):=by simp
 have e2:Q7 (S ++ .arr 20 (cur.map Tm.enc)::J) (.undef, .arr S.length 20 0 t.kids.length)=some (.list 20 (cur.map Tm.enc)):=by
  simp only [Q7,iT,E9,BEq.rfl,D6,zyq,z3q,hc,zgq,if_true,zcq];rw [z8q (by simp [hc])]
 simp only [e1,E9,C8,z0q,if_false,U0,e2,fB,Tm.pj,F6,B1A,Tm.fK];simp only [Q7,E9,Tm.fK]
def A0k:Tm := .mk 0 0 0 O0 O0 0 O0 0 0 false [] (.mk 0 0 []) (.mk 0 0 []) [] [] []
theorem aB:DV.agg ((.int .i64 0)::(Cw []))=A0k.enc:=by
 rw [Tm.H8];rfl
def Qn (o:Option Tm):DV :=
 match o with
 | some u => .F3 [u.enc, .int .i64 0]
 | none => .F3 [A0k.enc, .int .i64 8]
theorem A3e:p.thin=true->∀ n:Int,0<=n->n<=500->∃ m:Int,(run cfg).p Og [p.enc, .int .i64 n]=some (.int .i64 m)/\0<=m/\m<=501/\n<=m:=by
 induction p using D5.ind with
 | h p ih =>
   intro ht n h0 h1;have hb:=p.D_ ht;have loop:∀ (k j:Nat) (n:Int),j+k=p.kids.length->0<=n->n<=501->∃ m:Int,Jt (run cfg) (.int .i64 n) (.int .i64 j) p.enc=some (.int .i64 m)/\0<=m/\m<=501/\n<=m:=by
    intro k
    induction k with
    | zero =>
      intro j n hj h0 h1;refine ⟨n, ?_,h0,h1,Int.le_refl _⟩;have:¬ j<p.kids.length:=by omega
      rw [Nw];simp [this]
    | succ k ihk =>
      intro j n hj h0 h1;have Bg:j<p.kids.length:=by omega
      rw [Nw]
      by_cases hn:n<=500
      ·obtain ⟨m,a1,a2,a3,a4⟩:=ih _ (z1q Bg) (D5.Gg ht (z1q Bg)) n h0 hn
       obtain ⟨m',b1,b2,b3,b4⟩:=ihk (j+1) m (by omega) a2 a3
       push_cast at b1;exact ⟨m',by simp [Bg,hn,I8 Bg,D5.Q9,D5.ag,a1,N9 (show j<9223372036854775807 by omega),b1],b2,b3,by omega⟩
      ·exact ⟨n,by simp [Bg,hn],h0,h1,Int.le_refl _⟩
   by_cases c1:(300:Int)<(p.s.size:Int)
   ·refine ⟨501,(Lf _ _).trans ?_,by omega,by omega,by omega⟩
    rw [NP];simp [c1]
   by_cases c2:(300:Int)<(p.name.size:Int)
   ·refine ⟨501,(Lf _ _).trans ?_,by omega,by omega,by omega⟩
    rw [NP];simp [c1,c2]
   obtain ⟨m,a1,a2,a3,a4⟩:=loop p.kids.length 0 (n+1) (by omega) (by omega) (by omega)
   refine ⟨m,(Lf _ _).trans ?_,a2,a3,by omega⟩
   rw [NP];have Ms:A8 .add (.int .i64 n) (.int .i64 1)=some (.int .i64 (n+1)):=Nt (by omega) (by omega)
   simp [c1,c2,Ms];exact a1
theorem zx (ht:t.fit) (hz:t.sized) (n:Int) (h0:500<n) (h1:n<=1099511627776):∃ m:Int,(run cfg).p MV [t.enc, .int .i64 n]=some (.int .i64 m)/\500<m/\m<=n+4294967298:=by
 have hv:=big (z7q ht.one.vars);have hn:∀ m:Int,n<=m->¬ m<=500:=fun m h=>by omega
 have l3:∀ m:Int,n<=m->GK (run cfg) (.int .i64 m) (.int .i64 0) t.enc=some (.int .i64 m):=by
  intro m hm;have:=hn m hm;rw [Le];simp [this]
 have l2:∀ m:Int,n<=m->GJ (run cfg) (.int .i64 m) (.int .i64 0) t.enc=some (.int .i64 m):=by
  intro m hm;have:=hn m hm;rw [Ld];simp [this,l3 m hm]
 have l1:∀ m:Int,n<=m->KL (run cfg) (.int .i64 m) (.int .i64 0) t.enc=some (.int .i64 m):=by
  intro m hm;have:=hn m hm;rw [NQ];simp [this,l2 m hm]
 have Ms:A8 .add (.int .i64 n) (.int .i64 1)=some (.int .i64 (n+1)):=Nt (by omega) (by omega)
 have PO:A8 .add (.int .i64 (n+1)) (.int .i64 (t.vars.length:Int))=some (.int .i64 (n+1+t.vars.length)):=Nt (by omega) (by omega)
 by_cases c1:(300:Int)<(t.s.size:Int)
 ·refine ⟨501,(Ar _ _).trans ?_,by omega,by omega⟩
  rw [BF];simp [c1,Ms,PO]
 by_cases c2:(300:Int)<(t.name.size:Int)
 ·refine ⟨501,(Ar _ _).trans ?_,by omega,by omega⟩
  rw [BF];simp [c1,c2,Ms,PO]
 by_cases c3:(300:Int)<(t.arg.size:Int)
 ·refine ⟨501,(Ar _ _).trans ?_,by omega,by omega⟩
  rw [BF];simp [c1,c2,c3,Ms,PO]
 obtain ⟨b1,Jq⟩:=zw _ hz.a;obtain ⟨b2,VK⟩:=zw _ hz.b;cases b1
 ·refine ⟨501,(Ar _ _).trans ?_,by omega,by omega⟩
  rw [BF];simp [c1,c2,c3,Ms,PO,Ty.Q9,Ty.ag,Jq]
 cases b2
 ·refine ⟨501,(Ar _ _).trans ?_,by omega,by omega⟩
  rw [BF];simp [c1,c2,c3,Ms,PO,Ty.Q9,Ty.ag,Jq,VK]
 refine ⟨n+1+t.vars.length,(Ar _ _).trans ?_,by omega,by omega⟩
 rw [BF];simp [c1,c2,c3,Ms,PO,Ty.Q9,Ty.ag,Jq,VK];exact l1 _ (by omega)
theorem B0U (t:Ty):(run cfg).p nS [t.enc]=some (.bool t.none):=by
 refine (xk _).trans ?_;rw [A1G];simp [Ty.none]
 by_cases h1:t.kind=0 <;> by_cases h2:t.n=0 <;> simp [h1,h2]
theorem A9Y (b:Bool):(run cfg).p MW [.bool b]=some (.int .i64 (if b=true then 1 else 0)):=by
 refine (YU _).trans ?_;rw [bQ];cases b <;> simp
def opN (op a b:Int):Option Int :=
 if op=1 then some (IntKind.i64.wrap (a+b)) else if op=2 then some (IntKind.i64.wrap (a-b)) else if op=3 then some (IntKind.i64.wrap (a * b))
 else if op=4 then (if b=0 then none else some (IntKind.i64.wrap (a.tdiv b))) else if op=5 then some (if a<b then 1 else 0) else some (if a=b then 1 else 0)
theorem B4U (op a b:Int):(run cfg).p A2M [.int .i64 op, .int .i64 a, .int .i64 b]=some (match opN op a b with | some n => .F3 [.int .i64 n, .bool true] | none => .F3 [.int .i64 0, .bool false]):=by
 have qu:∀ x y:Int,y≠0->A8 .quo (.int .i64 x) (.int .i64 y)=some (.int .i64 (IntKind.i64.wrap (x.tdiv y))):=fun x y h=>by
  show (if y=0 then none else some (DV.int .i64 (IntKind.i64.wrap (x.tdiv y))))=_
  rw [if_neg h]
 have mu:∀ x y:Int,A8 .mul (.int .i64 x) (.int .i64 y)=some (.int .i64 (IntKind.i64.wrap (x * y))):=fun x y=>rfl
 refine (A4x _ _ _).trans ?_;rw [A6B];unfold opN;simp only [M0,H7,U9,IU,mu,E9,C8,A9Y]
 by_cases c1:op=1
 ·simp [c1]
 by_cases c2:op=2
 ·simp [c2]
 by_cases c3:op=3
 ·simp [c3]
 by_cases c4:op=4
 ·by_cases z:b=0
  ·simp [c4,z]
  ·by_cases m:b = -1
   ·subst m
    simp [c4,Int.tdiv_neg]
   ·simp [c4,z,m,qu]
 by_cases c5:op=5
 ·simp [c5]
 simp [c1,c2,c3,c4,c5]
theorem A6y (b:Int × Ty):DV.agg [A7 0 (U7 b),A7 1 (U7 b),A7 2 (U7 b),A7 3 (U7 b)]=U7 b:=rfl
theorem wV (b:Int × Ty):A7 0 (U7 b) = .int .i64 b.1:=rfl
variable (x:List (DV × Meta)) (l:DX)
def CS:List D8:=[.box x, .arr 4 (l.map U7)]
theorem B1C (vs:List Int) (hx:X5 x 10=some (J9 vs)) (hv:vs.length<=lim) (b:Int × Ty) (cur:DX) :
 (run cfg).r Cg [(U7 b, .val),(.undef, .ptr 0 0)] (CS x cur)=some ([.bool (decide (b.1∈vs))],CS x cur):=by
 refine (Xc _ _ _).trans ?_;rw [ZB];have e0:M5 (CS x cur) 0=some x:=rfl;have e1:C9 4 (U7 b)=true:=rfl;simp only [e0,e1,D6,E9,hx,wV,z_ vs hv]
theorem kK {j n:Nat} (h:j<n):Am 0 n (.int .i64 (j:Int))=some j:=by
 show (if (0:Int)<=(j:Int)/\(j:Int)<(n:Int) then some (0+(j:Int).toNat) else none)=some j
 rw [if_pos ⟨by omega,by omega⟩]
 simp
theorem A9N (vs:List Int) (hx:X5 x 10=some (J9 vs)) (hv:vs.length<=lim) (l:DX) (hl:l.length<=lim) :
 ∃ j:Nat,(∀ i (h:i<l.length),i<j->l[i].1∉vs)/\((j=l.length/\(run cfg).r U5 [(.undef, .arr 1 4 0 l.length),(.undef, .fn Cg [(0,0)])] (CS x l)=some ([.int .i64 (-1)],CS x l)) \/
   (j<l.length/\(∀ h:j<l.length,l[j].1∈vs)/\(run cfg).r U5 [(.undef, .arr 1 4 0 l.length),(.undef, .fn Cg [(0,0)])] (CS x l)=some ([.int .i64 (j:Int)],CS x l))):=by
 have hb:=big hl;have loop:∀ (n i:Nat),i+n=l.length->(∀ a (h:a<l.length),a<i->l[a].1∉vs)->∃ j:Nat,(∀ a (h:a<l.length),a<j->l[a].1∉vs) /\
  ((j=l.length/\O3 (run cfg) 1 0 l.length 0 (.int .i64 (l.length:Int)) (.int .i64 (i:Int)) (CS x l)=some ([.int .i64 (-1)],CS x l)) \/
  (j<l.length/\(∀ h:j<l.length,l[j].1∈vs)/\O3 (run cfg) 1 0 l.length 0 (.int .i64 (l.length:Int)) (.int .i64 (i:Int)) (CS x l)=some ([.int .i64 (j:Int)],CS x l))):=by
  intro n
  induction n with
  | zero =>
    intro i hi ha;have e:i=l.length:=by omega
    subst e;refine ⟨l.length,ha, .inl ⟨rfl, ?_⟩⟩;rw [BO];simp only [H7,ziq,decide_false,E9,C8,z0q,if_false]
  | succ n ih =>
    intro i hi ha;have h:i<l.length:=by omega
    have s1:BN (CS x l) 1=some (4,l.map U7):=rfl;have g1:(l.map U7)[i]?=some (U7 l[i]):=by rw [zqq,z4q h];rfl
    have e1:A8 .add (.int .i64 (i:Int)) (.int .i64 1)=some (.int .i64 ((i+1:Nat):Int)):=N9 (show i<9223372036854775807 by omega)
    have step:∀ Z,O3 (run cfg) 1 0 l.length 0 (.int .i64 (l.length:Int)) (.int .i64 (i:Int)) (CS x l)=Z ↔ (if l[i].1∈vs then some ([.int .i64 (i:Int)],CS x l) else O3 (run cfg) 1 0 l.length 0 (.int .i64 (l.length:Int)) (.int .i64 ((i+1:Nat):Int)) (CS x l))=Z:=by
     intro Z;rw [BO (run cfg) 1 0 l.length 0 (.int .i64 (l.length:Int)) (.int .i64 (i:Int))];simp only [H7,zeq,h,decide_true,E9,C8,if_true,kK h,s1,g1,BEq.rfl,D6,A6y,B1C x vs hx hv,zjq,e1,decide_eq_true_eq]
    by_cases hm:l[i].1∈vs
    ·refine ⟨i,ha, .inr ⟨h,fun _=>hm, ?_⟩⟩
     rw [step,if_pos hm]
    ·obtain ⟨j,h1,h2⟩:=ih (i+1) (by omega) fun a h ha'=>by
      by_cases e:a=i
      ·subst e;exact hm
      ·exact ha a h (by omega)
     refine ⟨j,h1, ?_⟩;simp only [step,if_neg hm];exact h2
 obtain ⟨j,h1,h2⟩:=loop l.length 0 (by omega) (fun a h ha=>by omega)
 refine ⟨j,h1, ?_⟩;have c:∀ {q:List DV × List D8},O3 (run cfg) 1 0 l.length 0 (.int .i64 (l.length:Int)) (.int .i64 0) (CS x l)=some q->(run cfg).r U5 [(.undef, .arr 1 4 0 l.length),(.undef, .fn Cg [(0,0)])] (CS x l)=some q:=fun h=>by
  refine La 1 0 l.length 0 _ ?_;rw [FK];exact h
 rcases h2 with ⟨a,b⟩ | ⟨a,b,d⟩
 ·exact .inl ⟨a,c b⟩
 ·exact .inr ⟨a,b,c d⟩
theorem filter_all {l:DX} {vs:List Int} (h:∀ i (h:i<l.length),l[i].1∉vs):U3 l vs=l:=by
 unfold U3;rw [List.filter_eq_self];intro b hb;obtain ⟨i,hi,rfl⟩:=List.mem_iff_getElem.1 hb;simp [h i hi]
theorem A7D (vs:List Int) (hx:X5 x 10=some (J9 vs)) (hv:vs.length<=lim) (l:DX) (hl:l.length<=lim) :
 ∃ sg:List D8,(run cfg).r Ae [(.undef, .arr 1 4 0 l.length),(.undef, .fn Cg [(0,0)])] (CS x l)=some ([M6 (U3 l vs)],sg):=by
 have hb:=big hl;obtain ⟨j0,hj1,hj2⟩:=A9N x vs hx hv l hl;have B7B:∀ (cur:DX) (n:Nat),n<=cur.length->Q7 (CS x cur) (.undef, .arr 1 4 0 n)=some (M6 (cur.take n)):=by
  intro cur n hn;have:BN (CS x cur) 1=some (4,cur.map U7):=rfl;simp only [Q7,this,E9,BEq.rfl,D6,zyq,z3q,hn,if_true,zcq,M6,y6q]
 have kept:∀ j (h:j<l.length),U3 (l.take (j+1)) vs=if l[j].1∈vs then U3 (l.take j) vs else U3 (l.take j) vs++[l[j]]:=by
  intro j h;unfold U3;rw [z5q h,List.filter_append]
  by_cases hm:l[j].1∈vs
  ·simp [hm]
  ·simp [hm]
 rcases hj2 with ⟨hj,hI⟩ | ⟨hj,hm,hI⟩
 ·-- none goes
  refine ⟨(CS x l).set 1 (.arr 1 []),ER 1 0 l.length 0 _ ?_⟩;rw [Bj];rw [filter_all fun i h=>hj1 i h (by omega)]
  have e:A8 .eql (.int .i64 (-1)) (.int .i64 (-1))=some (.bool true):=rfl;have sl:=B7B l l.length (zgq _);rw [zJq] at sl;simp only [hI,E9,zjq,e,C8,if_true,sl,fB]
 ·have loop:∀ (n j i:Nat) (cur:DX),j+n=l.length->i<j->cur.length=l.length->cur.take i=U3 (l.take j) vs->cur.drop j=l.drop j ->
   ∃ sg,V5 (run cfg) 1 0 l.length 0 (.int .i64 (i:Int)) (.int .i64 (j:Int)) (CS x cur)=some ([M6 (U3 l vs)],sg):=by
   intro n
   induction n with
   | zero =>
     intro j i cur hn MN hc ht hd;have e:j=l.length:=by omega
     subst e;have b1:bnd 0 (some (.int .i64 (i:Int)))=some i:=by
      show (if (0:Int)<=(i:Int) then some (i:Int).toNat else none)=some i
      rw [if_pos (by omega)];simp
     have b2:bnd l.length (some (.int .i64 (i:Int)))=some i:=by
      show (if (0:Int)<=(i:Int) then some (i:Int).toNat else none)=some i
      rw [if_pos (by omega)];simp
     have s1:BN (CS x cur) 1=some (4,cur.map U7):=rfl;have s2:∀ n:Nat,(CS x cur).set 1 (.arr 4 ((cur.map U7).take n))=CS x (cur.take n):=fun n=>by rw [<- y6q];rfl
     have c1:i+(l.length-i)<=(cur.map U7).length:=by rw [z3q];omega
     refine ⟨[.box x, .arr 1 []], ?_⟩;rw [BG];simp only [H7,ziq,decide_false,E9,C8,z0q,if_false,b1,b2,show i<=l.length/\l.length<=l.length from ⟨by omega,zgq _⟩,and_self,if_true,s1,BEq.rfl,zxq,zDq,c1,decide_true,D6,zLq,show i<=l.length by omega,s2,Nat.add_zero,Nat.sub_zero,zyq]
     have sl:=B7B (cur.take i) i (by rw [zEq];omega)
     rw [List.take_take,Nat.min_self,ht,zJq] at sl;rw [ht];simp only [zJq,sl,fB,E9];rfl
   | succ n ih =>
     intro j i cur hn MN hc ht hd;have h:j<l.length:=by omega
     have hcj:j<cur.length:=by omega
     have e:cur[j]=l[j]:=by
      have h1:(cur.drop j)[0]?=(l.drop j)[0]?:=by rw [hd]
      rw [y3q,y3q,Nat.add_zero,z4q hcj,z4q h,Option.some.injEq] at h1;exact h1
     have s1:BN (CS x cur) 1=some (4,cur.map U7):=rfl;have g1:(cur.map U7)[j]?=some (U7 l[j]):=by rw [zqq,z4q hcj,e];rfl
     have hci:i<cur.length:=by omega
     have g2:(cur.map U7)[i]?=some (U7 cur[i]):=by rw [zqq,z4q hci];rfl
     have a2:Am 0 l.length (.int .i64 (i:Int))=some i:=kK (by omega)
     have e1:A8 .add (.int .i64 (j:Int)) (.int .i64 1)=some (.int .i64 ((j+1:Nat):Int)):=N9 (show j<9223372036854775807 by omega)
     have e2:A8 .add (.int .i64 (i:Int)) (.int .i64 1)=some (.int .i64 ((i+1:Nat):Int)):=N9 (show i<9223372036854775807 by omega)
     have s2:∀ y:Int × Ty,(CS x cur).set 1 (.arr 4 ((cur.map U7).set i (U7 y)))=CS x (cur.set i y):=fun y=>by rw [<- zRq];rfl
     rw [BG];simp only [H7,zeq,h,decide_true,E9,C8,if_true,kK h,s1,g1,BEq.rfl,D6,A6y,B1C x vs hx hv,zjq,M8];have B7j:∀ (c:DX),c.drop j=l.drop j->c.drop (j+1)=l.drop (j+1):=fun c h=>by rw [<- yfq,<- yfq (l:=l),h]
     by_cases hm2:l[j].1∈vs
     ·simp only [hm2,decide_true,z9q,z0q,if_false,e1]
      refine ih (j+1) i cur (by omega) (by omega) hc ?_ (B7j cur hd)
      rw [kept j h,if_pos hm2,ht]
     ·simp only [hm2,decide_false,zrq,if_true,a2,E9,s1,g2,BEq.rfl,D6,e1,e2,s2]
      refine ih (j+1) (i+1) (cur.set i l[j]) (by omega) (by omega) (by simpa using hc) ?_ ?_
      ·rw [kept j h,if_neg hm2,z5q (by simpa using hci),zZq (zgq _),zVq,ht]
      ·rw [List.drop_set,if_pos (by omega)]
       exact B7j cur hd
  have start:l.take j0=U3 (l.take (j0+1)) vs:=by
   rw [kept j0 hj,if_pos (hm hj)];refine (filter_all fun i h => ?_).symm
   rw [zEq] at h;rw [List.getElem_take];exact hj1 i (by omega) (by omega)
  obtain ⟨sg,hs⟩:=loop (l.length-(j0+1)) (j0+1) j0 l (by omega) (by omega) rfl start rfl
  refine ⟨sg,ER 1 0 l.length 0 _ ?_⟩;rw [Bj];have e:A8 .eql (.int .i64 (j0:Int)) (.int .i64 (-1))=some (.bool false):=by
   rw [M0,decide_eq_false (by omega)]
  have e1:A8 .add (.int .i64 (j0:Int)) (.int .i64 1)=some (.int .i64 ((j0+1:Nat):Int)):=N9 (show j0<9223372036854775807 by omega)
  simp only [hI,E9,zjq,e,C8,z0q,if_false,e1];exact hs
theorem A5q (d:DV) (vs:List Int) (hd:C9 20 d=true) (Uk:A7 10 d=J9 vs) (hv:vs.length<=lim) (j:Int) (l:DX) (hl:l.length<=lim) :
 (run cfg).p KH [d, .int .i64 j,M6 l]=some (M6 (if 0<j then l else U3 l vs)):=by
 refine (b_ _ _ _).trans ?_;rw [gN];simp only [hd,D6,X8,E9,H5,decide_eq_true_eq,Uk,Kv,M0,C8]
 by_cases hj:0<j
 ·simp only [hj,if_true]
 simp only [hj,if_false]
 by_cases h0:vs=[]
 ·subst h0
  simp [B5v]
 ·have dQ:¬ ((vs.length:Int)=0):=by
   have:=List.length_pos_iff.2 h0;omega
  obtain ⟨sg,hs⟩:=A7D [(A7 0 d, .val),(A7 1 d, .val),(A7 2 d, .val),(A7 3 d, .val),(A7 4 d, .val),(A7 5 d, .val),(A7 6 d, .val),(A7 7 d, .val),(A7 8 d, .val),(A7 9 d, .val),(A7 10 d, .val),(A7 11 d, .val),(A7 12 d, .val),(A7 13 d, .val),(A7 14 d, .val),(A7 15 d, .val),(A7 16 d, .val),(A7 17 d, .val),(A7 18 d, .val),(A7 19 d, .val)] vs (by rw [<- Uk];rfl) hv l hl
  unfold CS at hs;have dl:Wp (M6 l)=some (4,l.map U7):=rfl;simp only [dQ,decide_false,z0q,if_false,dl,E9,BEq.rfl,zxq,z3q,hl,decide_true,D6]
  try rw [Uk] at hs
  simp only [hs,E9,zjq]
theorem A3m (k:Ty):(DV.agg [A7 0 k.enc,A7 1 k.enc,A7 2 k.enc])=k.enc:=by simp [Ty.Q9,Ty.ag]
theorem C2c (k:Ty):(DV.agg [.int .i64 k.kind,A7 1 k.enc,A7 2 k.enc])=k.enc:=by rw [<- Ty.Y3,A3m]
theorem Lu (k:Tm):(DV.agg [A7 0 k.enc,A7 1 k.enc,A7 2 k.enc,A7 3 k.enc,A7 4 k.enc,A7 5 k.enc,A7 6 k.enc,A7 7 k.enc,A7 8 k.enc,A7 9 k.enc,A7 10 k.enc,A7 11 k.enc,A7 12 k.enc,A7 13 k.enc,A7 14 k.enc,A7 15 k.enc,A7 16 k.enc,A7 17 k.enc,A7 18 k.enc,A7 19 k.enc])=k.enc:=by simp [Tm.Q9,Tm.ag]
theorem C05:DV.agg [A7 11 t.enc,A7 12 t.enc,A7 13 t.enc]=t.a.enc:=by rw [Tm.H8,Ty.H8];rfl
theorem C06:DV.agg [A7 14 t.enc,A7 15 t.enc,A7 16 t.enc]=t.b.enc:=by rw [Tm.H8,Ty.H8];rfl
theorem B6u {l:DX} (h:Z0 l=true):∀ e∈l,e.2.right=true:=by
 unfold Z0 at h;rw [zUq] at h;intro e he;have:=h e he;simp only [zdq] at this;exact this.2
theorem jh (t:Ty) (l:DX) (ht:t.right=true\/t.none=true) (hl:l.length<=lim) (hr:Z0 l=true):(run cfg).p TV [t.enc,M6 l]=some (t.Z9 l).enc:=by
 refine (yL _ _).trans ?_;rw [A10];unfold Ty.Z9;simp only [Ty.Y3 t,A3m,C2c,R5,D6,M0,E9,C8]
 by_cases h0:t.kind=0
 ·simp only [h0,decide_true,if_true]
 ·have rt:t.right=true:=by
   rcases ht with h | h
   ·exact h
   ·unfold Ty.none at h
    simp only [zdq,decide_eq_true_eq] at h;exact absurd h.1.1 h0
  have s:=A5o t l (Ty.Bq rt) hl fun e he=>Ty.Bq (B6u hr e he)
  rw [if_pos ⟨rt,hr⟩] at s;have x0:∀ a b,I9 0 (.F3 [a,b])=some a:=fun _ _=>rfl
  have x1:∀ a b,I9 1 (.F3 [a,b])=some b:=fun _ _=>rfl
  simp only [h0,decide_false,z0q,if_false,s,E9,x0,x1,R5,D6,A3m]
theorem Tm.jm {t:Tm} (h:t.right=true):(t.a.right=true\/t.a.none=true)/\(t.b.right=true\/t.b.none=true)/\∀ y∈t.args,y.right=true:=by
 have o:=Tm.AV h;unfold Tm.one Tm.Kj Tm.Lm Tm.Lp Tm.Mt Tm.OQ Tm.lists X7 at o;simp only [zdq,zUq] at o;refine ⟨?_, ?_, ?_⟩
 ·have:=o.1.1.2
  split at this
  ·exact .inl this
  ·exact .inr this
 ·have:=o.1.2
  split at this
  ·exact .inl this
  ·exact .inr this
 ·exact o.2.2.2.2.2.2.1.2
def B0a (j:Nat) (A:List Ty) (K:List Tm):Option DV :=
 NK (run cfg) (M6 l) t.args.length (.int .i64 t.args.length) (.int .i64 (j:Int)) (A7 0 t.enc) (A7 1 t.enc) (A7 2 t.enc) (A7 3 t.enc) (A7 4 t.enc) (A7 5 t.enc) (A7 6 t.enc) (A7 7 t.enc) (A7 8 t.enc) (A7 9 t.enc) (A7 10 t.enc) (A7 11 t.enc) (A7 12 t.enc) (A7 13 t.enc) (A7 14 t.enc) (A7 15 t.enc) (A7 16 t.enc) t.args.length (A7 18 t.enc) t.kids.length [.arr 3 (A.map Ty.enc), .arr 20 (K.map Tm.enc)]
def A0g (j:Nat) (A:List Ty) (K:List Tm):Option DV :=
 NL (run cfg) (M6 l) t.kids.length (.int .i64 t.kids.length) (.int .i64 (j:Int)) (A7 0 t.enc) (A7 1 t.enc) (A7 2 t.enc) (A7 3 t.enc) (A7 4 t.enc) (A7 5 t.enc) (A7 6 t.enc) (A7 7 t.enc) (A7 8 t.enc) (A7 9 t.enc) (A7 10 t.enc) (A7 11 t.enc) (A7 12 t.enc) (A7 13 t.enc) (A7 14 t.enc) (A7 15 t.enc) (A7 16 t.enc) t.args.length (A7 18 t.enc) t.kids.length [.arr 3 (A.map Ty.enc), .arr 20 (K.map Tm.enc)]
theorem A35 {A:List Ty} {K:List Tm}:BN [D8.arr 3 (A.map Ty.enc), .arr 20 (K.map Tm.enc)] 0=some (3,A.map Ty.enc)/\BN [D8.arr 3 (A.map Ty.enc), .arr 20 (K.map Tm.enc)] 1=some (20,K.map Tm.enc):=⟨rfl,rfl⟩
theorem A5g {l m:List α} {j:Nat} {y : α} (h:∀ i:Nat,j<=i->l[i]?=m[i]?):∀ i:Nat,j+1<=i->(l.set j y)[i]?=m[i]?:=fun i hi=>by rw [List.getElem?_set_ne (by omega)];exact h i (by omega)
theorem ut {l:List α} {j:Nat} (h:j<l.length) (y : α):(l.set j y).take (j+1)=l.take j++[y]:=by
 rw [z5q (by simpa using h),zZq (zgq _),zVq]
theorem A7S:t.fit->t.right=true->∀ l:DX,l.length<=lim->Z0 l=true->(run cfg).p Nj [t.enc,M6 l]=some (t.EA l).enc:=by
 induction t using Tm.ind with
 | h t ih =>
   intro ft rt l hl hr;obtain ⟨ra,rb,rargs⟩:=Tm.jm rt;have fk:=z7q ft.one.kids;have fa:=z7q ft.one.args;have hK:=big fk;have hA:=big fa;have fv:=z7q ft.one.vars;have fin:∀ (own:DX) (A:List Ty) (K:List Tm),own.length<=lim->Z0 own=true->A.length=t.args.length->K.length=t.kids.length ->
    NJ (run cfg) (M6 own) (A7 0 t.enc) (A7 1 t.enc) (A7 2 t.enc) (A7 3 t.enc) (A7 4 t.enc) (A7 5 t.enc) (A7 6 t.enc) (A7 7 t.enc) (A7 8 t.enc) (A7 9 t.enc) (A7 10 t.enc) (A7 11 t.enc) (A7 12 t.enc) (A7 13 t.enc) (A7 14 t.enc) (A7 15 t.enc) (A7 16 t.enc) t.args.length (A7 18 t.enc) t.kids.length [.arr 3 (A.map Ty.enc), .arr 20 (K.map Tm.enc)] =
    some (Tm.mk t.kind t.lo t.hi t.name t.arg t.n t.s t.op t.label t.neg t.vars (t.a.Z9 own) (t.b.Z9 own) A t.H6 K).enc:=by
    intro own A K h1 h2 h3 h4;have sv:∀ d,Q7 [D8.arr 3 (A.map Ty.enc), .arr 20 (K.map Tm.enc)] (d, .val)=some d:=fun _=>rfl
    have sa:Q7 [D8.arr 3 (A.map Ty.enc), .arr 20 (K.map Tm.enc)] (.undef, .arr 0 3 0 t.args.length)=some (.list 3 (A.map Ty.enc)):=by
     simp only [Q7,A35.1,E9,BEq.rfl,D6,zyq,z3q,h3,zgq,if_true,zcq];rw [z8q (by simp [h3])]
    have sk:Q7 [D8.arr 3 (A.map Ty.enc), .arr 20 (K.map Tm.enc)] (.undef, .arr 1 20 0 t.kids.length)=some (.list 20 (K.map Tm.enc)):=by
     simp only [Q7,A35.2,E9,BEq.rfl,D6,zyq,z3q,h4,zgq,if_true,zcq];rw [z8q (by simp [h4])]
    rw [bT];simp only [C05,C06,jh t.a own ra h1 h2,jh t.b own rb h1 h2,E9,R5,D6,U0,sv,sa,sk,A9s,fB];rw [Tm.H8 (Tm.mk _ _ _ _ _ _ _ _ _ _ _ _ _ _ _ _)];simp only [Tm.pj,F6,Ty.Y3,Ty.JX,Ty.El,Tm.Ca,Tm.Wy,Tm.Ww,Tm.Cb,Tm.Gr,Tm.SV,Tm.Ls,Tm.pJ,Tm.SN,Tm.eG,Tm.GX,Tm.av,Tm.a_,Tm.O_,Tm.Et,Tm.Q6];rfl
   have hid:∀ j:Int,(run cfg).p KH [.agg [A7 0 t.enc,A7 1 t.enc,A7 2 t.enc,A7 3 t.enc,A7 4 t.enc,A7 5 t.enc,A7 6 t.enc,A7 7 t.enc,A7 8 t.enc,A7 9 t.enc,A7 10 t.enc,A7 11 t.enc,A7 12 t.enc,A7 13 t.enc,A7 14 t.enc,A7 15 t.enc,A7 16 t.enc, .undef,A7 18 t.enc, .undef], .int .i64 j,M6 l]=some (M6 (if 0<j then l else U3 l t.vars)):=fun j =>
    A5q _ t.vars rfl (by show A7 10 t.enc=_;rw [Tm.OU]) fv j l hl
   have kids:∀ (n j:Nat) (A:List Ty) (K:List Tm),j+n=t.kids.length->A.length=t.args.length->K.length=t.kids.length->(∀ i:Nat,j<=i->K[i]?=t.kids[i]?) ->
    A0g t l j A K=some (Tm.mk t.kind t.lo t.hi t.name t.arg t.n t.s t.op t.label t.neg t.vars (t.a.Z9 (if t.kind=12 then U3 l t.vars else l)) (t.b.Z9 (if t.kind=12 then U3 l t.vars else l)) A t.H6 (K.take j++(Tm.Ii t.kids (U3 l t.vars) l).drop j)).enc:=by
    intro n
    induction n with
    | zero =>
      intro j A K hj ha hk _;have e:j=t.kids.length:=by omega
      subst e;have ho:=hid 0;rw [if_neg (by omega)] at ho
      unfold A0g;rw [SC];simp only [H7,ziq,decide_false,E9,C8,z0q,if_false,Tm.Y3 t,M0];rw [<- Tm.Y3 t];rw [z8q (Nat.le_of_eq hk),zSq (by rw [Tm.TF];exact zgq _),zOq]
      by_cases Qg:t.kind=12
      ·simp only [Qg,decide_true,if_true,ho,E9]
       have:=fin (U3 l t.vars) A K (y9q (A2R l _) hl) (PY hr _) ha hk;rw [this,Qg]
      ·simp only [Qg,decide_false,z0q,if_false]
       exact fin l A K hl hr ha hk
    | succ n ihn =>
      intro j A K hj ha hk hc;have h:j<t.kids.length:=by omega
      have h':j<K.length:=by omega
      have hcj:K[j]=t.kids[j]:=by
       have:=hc j (zgq _);rw [z4q h,z4q h'] at this;simpa using this
      have g1:(K.map Tm.enc)[j]?=some t.kids[j].enc:=by rw [zqq,z4q h',hcj];rfl
      have e1:A8 .add (.int .i64 (j:Int)) (.int .i64 1)=some (.int .i64 ((j+1:Nat):Int)):=N9 (show j<9223372036854775807 by omega)
      have hb:(if (0:Int)<(j:Int) then l else U3 l t.vars)=Jd j (U3 l t.vars) l:=by
       unfold Jd
       by_cases h0:j=0
       ·subst h0;rfl
       ·rw [if_pos (by omega),if_neg h0]
      have ho:=hid (j:Int);rw [hb] at ho;have bl:(Jd j (U3 l t.vars) l).length<=lim:=by
       unfold Jd;split
       ·exact y9q (A2R l _) hl
       ·exact hl
      have br:Z0 (Jd j (U3 l t.vars) l)=true:=by
       unfold Jd;split
       ·exact PY hr _
       ·exact hr
      have f1:=ih _ (z1q h) (ft.kid (z1q h)) (Tm.BU rt (z1q h)) _ bl br;have nx:=ihn (j+1) A (K.set j (t.kids[j].EA (Jd j (U3 l t.vars) l))) (by omega) ha (by simpa using hk) (A5g hc)
      rw [ut h'] at nx;unfold A0g at nx ⊢;rw [SC];rw [zRq] at nx;simp only [H7,zeq,h,decide_true,E9,C8,if_true,kK h,A35.2,g1,BEq.rfl,D6,ho,Lu,f1,F9,e1,zPq,zwq];rw [nx];have e2:(Tm.Ii t.kids (U3 l t.vars) l).drop j=t.kids[j].EA (Jd j (U3 l t.vars) l)::(Tm.Ii t.kids (U3 l t.vars) l).drop (j+1):=by
       have M4:j<(Tm.Ii t.kids (U3 l t.vars) l).length:=by rw [Tm.TF];exact h
       rw [z2q M4]
       congr 1
       have:=Tm.Xt (U3 l t.vars) l t.kids j;rw [z4q M4,z4q h,Option.map_some,Option.some.injEq] at this;exact this
      rw [e2,zvq];rfl
   have args:∀ (n j:Nat) (A:List Ty),j+n=t.args.length->A.length=t.args.length->(∀ i:Nat,j<=i->A[i]?=t.args[i]?)->B0a t l j A t.kids=A0g t l 0 (A.take j++(t.args.map (Ty.Z9 l)).drop j) t.kids:=by
    intro n
    induction n with
    | zero =>
      intro j A hj ha _;have e:j=t.args.length:=by omega
      subst e;unfold B0a A0g;rw [SB];simp only [H7,ziq,decide_false,E9,C8,z0q,if_false];rw [z8q (Nat.le_of_eq ha),zSq (by simp),zOq]
      rfl
    | succ n ihn =>
      intro j A hj ha hc;have h:j<t.args.length:=by omega
      have h':j<A.length:=by omega
      have hcj:A[j]=t.args[j]:=by
       have:=hc j (zgq _);rw [z4q h,z4q h'] at this;simpa using this
      have g1:(A.map Ty.enc)[j]?=some t.args[j].enc:=by rw [zqq,z4q h',hcj];rfl
      have e1:A8 .add (.int .i64 (j:Int)) (.int .i64 1)=some (.int .i64 ((j+1:Nat):Int)):=N9 (show j<9223372036854775807 by omega)
      have f1:=jh t.args[j] l (.inl (rargs _ (z1q h))) hl hr;have nx:=ihn (j+1) (A.set j (t.args[j].Z9 l)) (by omega) (by simpa using ha) (A5g hc)
      rw [ut h'] at nx;unfold B0a at nx ⊢;rw [SB];rw [zRq] at nx;simp only [H7,zeq,h,decide_true,E9,C8,if_true,kK h,A35.1,g1,BEq.rfl,D6,A3m,f1,R5,e1,zwq];rw [nx]
      congr 1
      have M4:j<(t.args.map (Ty.Z9 l)).length:=by simpa using h
      rw [z2q M4,zvq,List.getElem_map];rfl
   refine (mQ _ _).trans ?_;rw [sO];simp only [F9,D6,Tm.Ib t,Tm.Cs t,A4e,E9,BEq.rfl,zxq,z3q,fa,fk,decide_true];have h1:=args t.args.length 0 t.args (by omega) rfl fun i _=>rfl
   have h2:=kids t.kids.length 0 (t.args.map (Ty.Z9 l)) t.kids (by omega) (by simp) rfl fun i _=>rfl
   rw [y1q,zcq,zoq] at h1 h2;rw [Tm.TG,<- h2,<- h1];rfl
theorem qB (t:Ty) (l:DX) (ht:t.right=true\/t.none=true) (hl:l.length<=lim):(run cfg).p XJ [t.enc,M6 l]=some (t.Z9 l).enc:=by
 refine (A2b _ _).trans ?_;rw [A4p];simp only [A3m,R5,D6,B0U,E9,C8];cases hn:t.none
 ·have rt:t.right=true:=by
   rcases ht with h | h
   ·exact h
   ·rw [hn] at h;cases h
  have hp:=B26 l hl t rt;simp only [z0q,if_false,hp,E9,R5,D6,A3m];unfold Ty.Z9;rw [if_neg (Ty.A4N rt)]
 ·simp only [if_true]
  rw [Ty.A60 l hn]
theorem B14 (b:Int × Ty):DV.agg [.int .i64 b.1,A7 1 (U7 b),A7 2 (U7 b),A7 3 (U7 b)]=U7 b:=rfl
theorem A8n (a:DX) (b:Int × Ty) (h:a.length+1<=lim):Be 4 (M6 a) (.list 4 [U7 b])=some (M6 (a++[b])):=by
 unfold M6;exact GZ (e:=U7) (sz:=4) (l:=a) (x:=b) h
theorem A57 (vs:List Int) (hl:l.length<=lim) (hv:vs.length<=lim):(run cfg).p Xx [M6 l,J9 vs]=some (M6 (U3 l vs)):=by
 have hb:=big hl;refine (gY _ _).trans ?_;rw [lG];have loop:=JU (l:=l) (P:=fun j (a:DX)=>IL (run cfg) (M6 l) (J9 vs) (M6 a) (.int .i64 j))
  (g:=fun a b=>if b.1∈vs then a else a++[b]) (fin:=fun a=>some (M6 a)) (I:=fun j a=>a.length<=j)
  (fun a _=>by
    have dl:dLen (M6 l)=some (.int .i64 l.length):=by simp [M6]
    rw [QE];simp [dl])
  (fun j h a ha=>by
    have dl:dLen (M6 l)=some (.int .i64 l.length):=by simp [M6]
    have e1:F5 4 (M6 l) (.int .i64 (j:Int))=some (U7 l[j]):=I8 h;have e2:=A7a vs hv l[j].1;have e3:=A8n a l[j] (by omega)
    have e4:A8 .add (.int .i64 (j:Int)) (.int .i64 1)=some (.int .i64 ((j:Int)+1)):=N9 (show j<9223372036854775807 by omega)
    rw [QE]
    by_cases hm:l[j].1∈vs
    ·refine ⟨?_,by rw [if_pos hm];omega⟩
     simp only [dl,E9,H7,zeq,h,decide_true,C8,if_true,e1,wV,e2,hm,M8,z9q,z0q,if_false,e4]
    ·refine ⟨?_,by rw [if_neg hm];simp;omega⟩
     simp only [dl,E9,H7,zeq,h,decide_true,C8,if_true,e1,wV,e2,hm,decide_false,M8,zrq,B14,e3,e4,if_false]) [] (zLq _)
 have e:∀ (m:DX) (a:DX),m.foldl (fun a b=>if b.1∈vs then a else a++[b]) a=a++U3 m vs:=by
  intro m
  induction m with
  | nil=>intro a;simp [U3]
  | cons x m ih =>
    intro a;rw [ydq,ih]
    by_cases hm:x.1∈vs
    ·simp [U3,hm]
    ·simp [U3,hm]
 rw [e,zoq] at loop;exact loop
theorem A9U:t.fit->t.right=true->∀ l:DX,l.length<=lim->(run cfg).p QS [t.enc,M6 l]=some (t.EA l).enc:=by
 induction t using Tm.ind with
 | h t ih =>
   intro ft rt l hl;obtain ⟨ra,rb,rargs⟩:=Tm.jm rt;have fk:=z7q ft.one.kids;have fa:=z7q ft.one.args;have hK:=big fk;have hA:=big fa;have fv:=z7q ft.one.vars;have ho:=A57 l t.vars hl fv;have lo:(U3 l t.vars).length<=lim:=y9q (A2R l _) hl;have main:∀ own:DX,own.length<=lim->RF (run cfg) (M6 l) (M6 (U3 l t.vars)) (M6 own) t.enc =
    some (Tm.mk t.kind t.lo t.hi t.name t.arg t.n t.s t.op t.label t.neg t.vars (t.a.Z9 own) (t.b.Z9 own) (t.args.map (Ty.Z9 l)) t.H6 (Tm.Ii t.kids (U3 l t.vars) l)).enc:=by
    intro own OI;rw [lD];simp only [C05,C06,qB t.a own ra OI,qB t.b own rb OI,E9,R5,D6];have kids:=fun (A:List Ty)=>JU (l:=t.kids.mapIdx fun j k=>(j,k)) (P:=fun j (K:List Tm)=>JF (run cfg) (M6 l) (M6 (U3 l t.vars)) (.list 3 (A.map Ty.enc)) (.list 20 (K.map Tm.enc)) (.int .i64 j) (A7 0 t.enc) (A7 1 t.enc) (A7 2 t.enc) (A7 3 t.enc) (A7 4 t.enc) (A7 5 t.enc) (A7 6 t.enc) (A7 7 t.enc) (A7 8 t.enc) (A7 9 t.enc) (A7 10 t.enc) (A7 0 (t.a.Z9 own).enc) (A7 1 (t.a.Z9 own).enc) (A7 2 (t.a.Z9 own).enc) (A7 0 (t.b.Z9 own).enc) (A7 1 (t.b.Z9 own).enc) (A7 2 (t.b.Z9 own).enc) (A7 17 t.enc) (A7 18 t.enc) (A7 19 t.enc))
     (g:=fun K b=>K++[b.2.EA (Jd b.1 (U3 l t.vars) l)])
     (fin:=fun K=>some (Tm.mk t.kind t.lo t.hi t.name t.arg t.n t.s t.op t.label t.neg t.vars (t.a.Z9 own) (t.b.Z9 own) A t.H6 K).enc) (I:=fun j K=>K.length=j)
     (fun K _=>by
       have ci:I6 (.list 3 (A.map Ty.enc))=true:=rfl;simp only [List.length_mapIdx];rw [Rt];simp only [Tm.Cs t,K5,z3q,E9,H7,ziq,decide_false,C8,z0q,if_false,ci,D6];rw [Tm.H8 (Tm.mk _ _ _ _ _ _ _ _ _ _ _ _ _ _ _ _)];simp only [Tm.pj,F6,Ty.Y3,Ty.JX,Ty.El,Tm.Ca,Tm.Wy,Tm.Ww,Tm.Cb,Tm.Gr,Tm.SV,Tm.Ls,Tm.pJ,Tm.SN,Tm.eG,Tm.GX,Tm.av,Tm.a_,Tm.O_,Tm.Et,Tm.Q6])
     (fun j h K hK'=>by
       have h:j<t.kids.length:=by simpa using h
       refine ⟨?_,by simp [hK']⟩
       have e1:F5 20 (.list 20 (t.kids.map Tm.enc)) (.int .i64 (j:Int))=some t.kids[j].enc:=I8 h;have e2:=GZ (e:=Tm.enc) (sz:=20) (l:=K) (x:=t.kids[j].EA (Jd j (U3 l t.vars) l)) (by omega)
       have e4:A8 .add (.int .i64 (j:Int)) (.int .i64 1)=some (.int .i64 ((j:Int)+1)):=N9 (show j<9223372036854775807 by omega)
       have f1:=ih _ (z1q h) (ft.kid (z1q h)) (Tm.BU rt (z1q h)) (Jd j (U3 l t.vars) l) (by unfold Jd;split;exact lo;exact hl)
       simp only [List.getElem_mapIdx];rw [Rt];simp only [Tm.Cs t,K5,z3q,E9,H7,zeq,h,decide_true,C8,if_true,M0,e1,Lu]
       by_cases h0:j=0
       ·have hj:(j:Int)=0:=by omega
        have eb:Jd j (U3 l t.vars) l=U3 l t.vars:=if_pos h0;rw [eb] at f1 e2 ⊢;simp only [hj,decide_true,if_true] at e4 ⊢;simp only [f1,E9,F9,D6,Lu,e2,e4]
       ·have hj:¬ (j:Int)=0:=by omega
        have eb:Jd j (U3 l t.vars) l=l:=if_neg h0;rw [eb] at f1 e2 ⊢;simp only [hj,decide_false,z0q,if_false,f1,E9,F9,D6,Lu,e2,e4]) [] rfl
    have args:=JU (l:=t.args) (P:=fun j (A:List Ty)=>Ow (run cfg) (M6 l) (M6 (U3 l t.vars)) (.list 3 (A.map Ty.enc)) (.int .i64 j) (A7 0 t.enc) (A7 1 t.enc) (A7 2 t.enc) (A7 3 t.enc) (A7 4 t.enc) (A7 5 t.enc) (A7 6 t.enc) (A7 7 t.enc) (A7 8 t.enc) (A7 9 t.enc) (A7 10 t.enc) (A7 0 (t.a.Z9 own).enc) (A7 1 (t.a.Z9 own).enc) (A7 2 (t.a.Z9 own).enc) (A7 0 (t.b.Z9 own).enc) (A7 1 (t.b.Z9 own).enc) (A7 2 (t.b.Z9 own).enc) (A7 17 t.enc) (A7 18 t.enc) (A7 19 t.enc))
     (g:=fun A b=>A++[b.Z9 l]) (fin:=fun A=>some (Tm.mk t.kind t.lo t.hi t.name t.arg t.n t.s t.op t.label t.neg t.vars (t.a.Z9 own) (t.b.Z9 own) A t.H6 (Tm.Ii t.kids (U3 l t.vars) l)).enc) (I:=fun j A=>A.length=j)
     (fun A _=>by
       have k:=kids A;have ek:∀ (m:List (Nat × Tm)) (a:List Tm),m.foldl (fun K b=>K++[b.2.EA (Jd b.1 (U3 l t.vars) l)]) a=a++m.map fun b=>b.2.EA (Jd b.1 (U3 l t.vars) l):=by
        intro m
        induction m with
        | nil=>intro a;simp
        | cons x m ih=>intro a;rw [ydq,ih];simp
       rw [ek,zoq] at k;have em:((t.kids.mapIdx fun j k=>(j,k)).map fun b:Nat × Tm=>b.2.EA (Jd b.1 (U3 l t.vars) l))=Tm.Ii t.kids (U3 l t.vars) l:=by
        refine List.ext_getElem? fun j => ?_
        rw [Tm.Xt,zqq,List.getElem?_mapIdx,Option.map_map];rfl
       rw [em] at k;rw [UO];simp only [Tm.Ib t,K5,z3q,E9,H7,ziq,decide_false,C8,z0q,if_false];rw [Tm.Ib t] at k;exact k)
     (fun j h A hA'=>by
       refine ⟨?_,by simp [hA']⟩
       have e1:F5 3 (.list 3 (t.args.map Ty.enc)) (.int .i64 (j:Int))=some t.args[j].enc:=I8 h;have e2:=GZ (e:=Ty.enc) (sz:=3) (l:=A) (x:=t.args[j].Z9 l) (by omega)
       have e4:A8 .add (.int .i64 (j:Int)) (.int .i64 1)=some (.int .i64 ((j:Int)+1)):=N9 (show j<9223372036854775807 by omega)
       have f1:=qB t.args[j] l (.inl (rargs _ (z1q h))) hl;rw [UO];simp only [Tm.Ib t,K5,z3q,E9,H7,zeq,h,decide_true,C8,if_true,e1,A3m,f1,R5,D6,e2,e4]) [] rfl
    have ea:∀ (m:List Ty) (a:List Ty),m.foldl (fun A b=>A++[b.Z9 l]) a=a++m.map (Ty.Z9 l):=by
     intro m
     induction m with
     | nil=>intro a;simp
     | cons x m ih=>intro a;simp [ih]
    rw [ea,zoq] at args;exact args
   refine (tT _ _).trans ?_;rw [xG,Tm.TG];simp only [F9,D6,Tm.OU,ho,E9,Tm.Y3,M0,C8,Lu]
   by_cases Qg:t.kind=12
   ·simp only [Qg,decide_true,if_true]
    have:=main (U3 l t.vars) lo;rw [Qg] at this;exact this
   ·simp only [Qg,decide_false,z0q,if_false]
    exact main l hl
theorem Yn (t:Ty) (h:t.size<=lim):∃ b:Bool,(run cfg).p MU [t.enc]=some (.bool b)/\(b=true->t.size<=60):=by
 obtain ⟨b,hb⟩:=zu [t] (by simp [lim]) (by simpa using h)
 simp only [zlq,zAq] at hb;have hs:=A2H t h;cases b
 ·refine ⟨false,(MG _).trans ?_,by simp⟩
  rw [Nv];simp [Ty.Q9,Ty.ag,hb]
 ·refine ⟨decide ((t.size:Int)<=60),(MG _).trans ?_,fun h=>by simp at h;omega⟩
  rw [Nv];simp [Ty.Q9,Ty.ag,hb,hs]
variable (xs:List Int) (v:Tm)
def I_:List (DV × Meta) :=
 [(.str s, .val),(J9 xs, .val),(.int .i64 v.kind, .val),(.int .i64 v.lo, .val),(.int .i64 v.hi, .val),(.str v.name, .val),(.str v.arg, .val),(.int .i64 v.n, .val),(.str v.s, .val),(.int .i64 v.op, .val),(.int .i64 v.label, .val),(.bool v.neg, .val),(J9 v.vars, .val),
   (.int .i64 v.a.kind, .val),(.int .i64 v.a.n, .val),(.list 3 (v.a.kids.map Ty.enc), .val),(.int .i64 v.b.kind, .val),(.int .i64 v.b.n, .val),(.list 3 (v.b.kids.map Ty.enc), .val),(.list 3 (v.args.map Ty.enc), .val),(.list 7 (v.H6.map D5.enc), .val),(.list 20 (v.kids.map Tm.enc), .val)]
theorem B0D:∃ e,CV 2 20 (I_ s xs v)=some e/\DV.agg e=v.enc:=⟨_,rfl,by rw [Tm.H8]⟩
def df (t:Tm) (j:Int) (a:DX) (S:List D8):Option (List DV × List D8) :=
 GM (run cfg) 0 (M6 a) (J9 xs) (.int .i64 xs.length) (.int .i64 j) t.enc S
theorem B58 (t:Tm) (S:List D8) (hS:M5 S 0=some (I_ s xs v)) (ZN:xs.length<=lim) (h3:t.args.length=xs.length) :
 df xs t 0 [] S=df xs t xs.length (xs.zip t.args) S:=by
 have hb:=big ZN;have loop:∀ (n j:Nat),j+n=xs.length->df xs t j ((xs.zip t.args).take j) S=df xs t xs.length (xs.zip t.args) S:=by
  intro n
  induction n with
  | zero =>
    intro j hj;have e:j=xs.length:=by omega
    subst e;rw [z8q (by rw [zXq];omega)]
  | succ n ih =>
    intro j hj;have h:j<xs.length:=by omega
    have h':j<t.args.length:=by omega
    have hz:j<(xs.zip t.args).length:=by rw [zXq];omega
    rw [<- ih (j+1) (by omega),z5q hz,List.getElem_zip]
    have e1:=Hm (k := .i64) h;have e2:F5 3 (.list 3 (t.args.map Ty.enc)) (.int .i64 (j:Int))=some t.args[j].enc:=I8 h';have e3:=A8n ((xs.zip t.args).take j) (xs[j],t.args[j]) (by rw [zEq];omega)
    have e5:U7 (xs[j],t.args[j]) = .agg [.int .i64 xs[j],A7 0 t.args[j].enc,A7 1 t.args[j].enc,A7 2 t.args[j].enc]:=by rw [Ty.H8];rfl
    rw [e5] at e3;have e4:A8 .add (.int .i64 (j:Int)) (.int .i64 1)=some (.int .i64 ((j+1:Nat):Int)):=N9 (show j<9223372036854775807 by omega)
    have il:K6 (.int .i64 xs[j])=true:=rfl;have ic:I6 (.int .i64 xs[j])=true:=rfl;unfold df;rw [Jg];simp only [H7,zeq,h,decide_true,E9,C8,if_true,e1,il,ic,D6,Tm.Ib t,e2,e3,e4]
 have:=loop xs.length 0 (by omega)
 exact this
theorem B76 (t:Tm) (S:List D8) (hS:M5 S 0=some (I_ s xs v)) (e:List DV) (e1:CV 2 20 (I_ s xs v)=some e) (e2:DV.agg e=v.enc) (hT:(run cfg).p Nj [v.enc,M6 (xs.zip t.args)]=some (v.EA (xs.zip t.args)).enc) :
 df xs t xs.length (xs.zip t.args) S=some ([(v.EA (xs.zip t.args)).enc, .bool true],S):=by
 unfold df;rw [Jg];simp only [H7,ziq,decide_false,E9,C8,z0q,if_false,hS,e1,e2,hT,F9,D6,Lu]
theorem A7G:t.fit->t.sized->∀ n:Int,0<=n->n<=500->∃ m:Int,(run cfg).p MV [t.enc, .int .i64 n]=some (.int .i64 m)/\0<=m/\m<=5000000000/\(m<=500->n+t.size<=m/\t.qA):=by
 induction t using Tm.ind with
 | h t ih =>
   intro ht hz n h0 h1;have hk:=big (z7q ht.one.kids);have hp:=big (z7q ht.one.H6);have ha:=big (z7q ht.one.args);have hv:=big (z7q ht.one.vars);have l3:∀ (k j:Nat) (n:Int),j+k=t.kids.length->0<=n->n<=5000000000->∃ m:Int,GK (run cfg) (.int .i64 n) (.int .i64 j) t.enc=some (.int .i64 m)/\0<=m/\m<=5000000000/\(m<=500->n+(((t.kids.drop j).map Tm.size).sum:Nat)<=m/\∀ k∈t.kids.drop j,k.qA):=by
    intro k
    induction k with
    | zero =>
      intro j n hj h0 h1;refine ⟨n, ?_,h0,h1,fun _=>by rw [zbq (by omega)];simp⟩
      have:¬ j<t.kids.length:=by omega
      rw [Le];simp [this]
    | succ k ihk =>
      intro j n hj h0 h1;have Bg:j<t.kids.length:=by omega
      rw [Le]
      by_cases hn:n<=500
      ·obtain ⟨m,a1,a2,a3,a4⟩:=ih _ (z1q Bg) (ht.kid (z1q Bg)) (hz.kid (z1q Bg)) n h0 hn
       obtain ⟨m',b1,b2,b3,b4⟩:=ihk (j+1) m (by omega) a2 a3
       push_cast at b1;exact ⟨m',by simp [Bg,hn,I8 Bg,Tm.Q9,Tm.ag,a1,N9 (show j<9223372036854775807 by omega),b1],b2,b3,fun h=>by
        have g1:=b4 h;rw [z2q Bg,zlq,zsq];have g2:=a4 (by omega)
        push_cast;refine ⟨by omega,fun k hk => ?_⟩
        rcases zMq.1 hk with rfl | hk
        ·exact g2.2
        ·exact g1.2 k hk⟩
      ·exact ⟨n,by simp [Bg,hn],h0,h1,fun h=>absurd h (by omega)⟩
   have l2:∀ (k j:Nat) (n:Int),j+k=t.H6.length->0<=n->n<=5000000000->∃ m:Int,GJ (run cfg) (.int .i64 n) (.int .i64 j) t.enc=some (.int .i64 m)/\0<=m/\m<=5000000000/\(m<=500->n+((t.kids.map Tm.size).sum:Nat)<=m/\∀ k∈t.kids,k.qA):=by
    intro k
    induction k with
    | zero =>
      intro j n hj h0 h1;obtain ⟨m,a1,a2,a3,a4⟩:=l3 t.kids.length 0 n (by omega) h0 h1
      refine ⟨m, ?_,a2,a3,by simpa using a4⟩
      have:¬ j<t.H6.length:=by omega
      rw [Ld];simp [this];exact a1
    | succ k ihk =>
      intro j n hj h0 h1;have Bg:j<t.H6.length:=by omega
      rw [Ld]
      by_cases hn:n<=500
      ·obtain ⟨m,a1,a2,a3,a4⟩:=A3e _ (D5.oL (ht.one.pat _ (z1q Bg))) n h0 hn
       obtain ⟨m',b1,b2,b3,b4⟩:=ihk (j+1) m (by omega) a2 (by omega)
       push_cast at b1;exact ⟨m',by simp [Bg,hn,I8 Bg,D5.Q9,D5.ag,a1,N9 (show j<9223372036854775807 by omega),b1],b2,b3,fun h=>⟨by have:=b4 h;omega,(b4 h).2⟩⟩
      ·obtain ⟨m,a1,a2,a3,a4⟩:=l3 t.kids.length 0 n (by omega) h0 h1
       exact ⟨m,by simp [Bg,hn];exact a1,a2,a3,by simpa using a4⟩
   have l1:∀ (k j:Nat) (n:Int),j+k=t.args.length->0<=n->n<=5000000000->∃ m:Int,KL (run cfg) (.int .i64 n) (.int .i64 j) t.enc=some (.int .i64 m)/\0<=m/\m<=5000000000/\(m<=500->n+((t.kids.map Tm.size).sum:Nat)<=m/\(∀ k∈t.kids,k.qA)/\∀ y∈t.args.drop j,y.size<=60):=by
    intro k
    induction k with
    | zero =>
      intro j n hj h0 h1;obtain ⟨m,a1,a2,a3,a4⟩:=l2 t.H6.length 0 n (by omega) h0 h1
      refine ⟨m, ?_,a2,a3,fun h=>⟨(a4 h).1,(a4 h).2,by rw [zbq (by omega)];simp⟩⟩
      have:¬ j<t.args.length:=by omega
      rw [NQ];simp [this];exact a1
    | succ k ihk =>
      intro j n hj h0 h1;have Bg:j<t.args.length:=by omega
      rw [NQ]
      by_cases hn:n<=500
      ·obtain ⟨b,hb,hq⟩:=Yn _ (hz.args _ (z1q Bg))
       have Ms:A8 .add (.int .i64 n) (.int .i64 1)=some (.int .i64 (n+1)):=Nt (by omega) (by omega)
       cases b
       ·exact ⟨501,by simp [Bg,hn,Ms,I8 Bg,Ty.Q9,Ty.ag,hb],by omega,by omega,fun h=>absurd h (by omega)⟩
       ·obtain ⟨m',b1,b2,b3,b4⟩:=ihk (j+1) (n+1) (by omega) (by omega) (by omega)
        push_cast at b1;exact ⟨m',by simp [Bg,hn,Ms,I8 Bg,Ty.Q9,Ty.ag,hb,N9 (show j<9223372036854775807 by omega),b1],b2,b3,fun h=>⟨by have:=b4 h;omega,(b4 h).2.1,fun y hy=>by
         rw [z2q Bg] at hy;rcases zMq.1 hy with rfl | hy
         ·exact hq rfl
         ·exact (b4 h).2.2 y hy⟩⟩
      ·obtain ⟨m,a1,a2,a3,a4⟩:=l2 t.H6.length 0 n (by omega) h0 h1
       exact ⟨m,by simp [Bg,hn];exact a1,a2,a3,fun h=>absurd (a4 h).1 (by omega)⟩
   have Ms:A8 .add (.int .i64 n) (.int .i64 1)=some (.int .i64 (n+1)):=Nt (by omega) (by omega)
   have PO:A8 .add (.int .i64 (n+1)) (.int .i64 (t.vars.length:Int))=some (.int .i64 (n+1+t.vars.length)):=Nt (by omega) (by omega)
   by_cases c1:(300:Int)<(t.s.size:Int)
   ·refine ⟨501,(Ar _ _).trans ?_,by omega,by omega,fun h=>absurd h (by omega)⟩
    rw [BF];simp [c1,Ms,PO]
   by_cases c2:(300:Int)<(t.name.size:Int)
   ·refine ⟨501,(Ar _ _).trans ?_,by omega,by omega,fun h=>absurd h (by omega)⟩
    rw [BF];simp [c1,c2,Ms,PO]
   by_cases c3:(300:Int)<(t.arg.size:Int)
   ·refine ⟨501,(Ar _ _).trans ?_,by omega,by omega,fun h=>absurd h (by omega)⟩
    rw [BF];simp [c1,c2,c3,Ms,PO]
   obtain ⟨b1,Jq,hq1⟩:=Yn _ hz.a;obtain ⟨b2,VK,ZM⟩:=Yn _ hz.b;cases b1
   ·refine ⟨501,(Ar _ _).trans ?_,by omega,by omega,fun h=>absurd h (by omega)⟩
    rw [BF];simp [c1,c2,c3,Ms,PO,Ty.Q9,Ty.ag,Jq]
   cases b2
   ·refine ⟨501,(Ar _ _).trans ?_,by omega,by omega,fun h=>absurd h (by omega)⟩
    rw [BF];simp [c1,c2,c3,Ms,PO,Ty.Q9,Ty.ag,Jq,VK]
   obtain ⟨m,a1,a2,a3,a4⟩:=l1 t.args.length 0 (n+1+t.vars.length) (by omega) (by omega) (by omega)
   refine ⟨m,(Ar _ _).trans ?_,a2,a3,fun h=>⟨by
    have:=(a4 h).1;have:=t.size_eq;push_cast at *;omega, .mk _ ⟨hq1 rfl,ZM rfl,by simpa using (a4 h).2.2⟩ (a4 h).2.1⟩⟩
   rw [BF];simp [c1,c2,c3,Ms,PO,Ty.Q9,Ty.ag,Jq,VK];exact a1
theorem A7F (l:List Tm) (hl:l.length<=16) (ft:∀ t∈l,t.fit) (hz:∀ t∈l,t.sized):∃ b:Bool,(run cfg).p ig [.list 20 (l.map Tm.enc)]=some (.bool b)/\(b=false->(l.map Tm.size).sum<=500/\∀ t∈l,t.qA):=by
 have loop:∀ (k j:Nat) (n:Int),j+k=l.length->0<=n->n<=(j+1) * 5000000000->∃ b:Bool,Oo (run cfg) (.list 20 (l.map Tm.enc)) (.int .i64 n) (.int .i64 (j:Int))=some (.bool b)/\(b=false->n+(((l.drop j).map Tm.size).sum:Nat)<=500/\∀ t∈l.drop j,t.qA):=by
  intro k
  induction k with
  | zero =>
    intro j n hj h0 h1;have:¬ j<l.length:=by omega
    refine ⟨decide (500<n), ?_,fun h => ?_⟩
    ·rw [UH]
     simp [this]
    ·rw [zbq (by omega)]
     simp at h;simp;omega
  | succ k ih =>
    intro j n hj h0 h1;have h:j<l.length:=by omega
    obtain ⟨m,a1,a2,a3,a4⟩:∃ m:Int,(run cfg).p MV [l[j].enc, .int .i64 n]=some (.int .i64 m)/\0<=m/\m<=n+5000000000/\(m<=500->n+l[j].size<=m/\l[j].qA):=by
     by_cases hn:n<=500
     ·obtain ⟨m,a1,a2,a3,a4⟩:=A7G _ (ft _ (z1q h)) (hz _ (z1q h)) n h0 hn
      exact ⟨m,a1,a2,by omega,a4⟩
     ·obtain ⟨m,a1,a2,a3⟩:=zx _ (ft _ (z1q h)) (hz _ (z1q h)) n (by omega) (by omega)
      exact ⟨m,a1,by omega,by omega,fun h=>absurd h (by omega)⟩
    obtain ⟨b,hb,VK⟩:=ih (j+1) m (by omega) a2 (by omega)
    push_cast at hb;refine ⟨b, ?_,fun hf => ?_⟩
    ·rw [UH]
     simp [h,I8 h,Tm.Q9,Tm.ag,a1,N9 (show j<9223372036854775807 by omega),hb]
    ·have g1:=VK hf
     rw [z2q h,zlq,zsq];have g2:=a4 (by omega)
     push_cast;refine ⟨by omega,fun k hk => ?_⟩
     rcases zMq.1 hk with rfl | hk
     ·exact g2.2
     ·exact g1.2 k hk
 obtain ⟨b,hb,VK⟩:=loop l.length 0 0 (by omega) (by omega) (by omega)
 refine ⟨b,(sw _).trans ?_,fun h => ?_⟩
 ·rw [wu]
  simpa using hb
 ·have:=VK h
  rw [zcq] at this;exact ⟨by omega,this.2⟩
theorem Tm.A82 {t:Tm} (h:t.right=true) (h1:t.kind=1):t.kids=[]:=by
 have o:=Tm.AV h;unfold Tm.one at o;simp only [zdq,decide_eq_true_eq] at o;have:=o.1.1.1.1.1.2;rw [h1] at this;simp [O5] at this;exact this
theorem B0S (x:Int) (n:Nat) (h0:0<n) (h1:n<=lim):∃ r:Nat,r<n/\(run cfg).p ZP [.int .i64 x, .int .i64 n]=some (.int .i64 r):=by
 have hb:=big h1;have hn:¬ ((n:Int)<1):=by omega
 have hu:IntKind.u64.wrap (n:Int)=n:=Go.IntWalk.u64_in _ ⟨by omega,by omega⟩
 have hx:0<=IntKind.u64.wrap x:=by
  simp [IntKind.wrap,IntKind.bits,IntKind.signed];omega
 generalize hw:IntKind.u64.wrap x=w at hx;have hr1:0<=w.tmod n:=Int.tmod_nonneg _ hx;have hr2:w.tmod n<n:=Int.tmod_lt_of_pos _ (by omega)
 refine ⟨(w.tmod n).toNat,by omega,(xc _ _).trans ?_⟩
 have C22:A8 .rem (.int .u64 w) (.int .u64 (n:Int))=some (.int .u64 (w.tmod n)):=by
  have:¬ ((n:Int)=0):=by omega
  simp [A8,Iu,KX];omega
 have hi:IntKind.i64.wrap (w.tmod n)=w.tmod n:=Go.IntWalk.i64_in _ ⟨by omega,by omega⟩
 have hc:((w.tmod n).toNat:Int)=w.tmod n:=by omega
 rw [A1B];simp only [H7,hn,decide_false,E9,C8,z0q,if_false,T_,hw,hu,C22,hi,hc]
end
end Go.Su

/-
 The calculus: grounds, values, chains, parts of types; the program's and the document's.
-/
namespace Go.Su
theorem F8 {α β : Type} (a : α) (f : α -> Option β):ob (some a) f=f a:=by simp [ob]
theorem Px (t:Ty):DV.agg [A7 0 t.enc,A7 1 t.enc,A7 2 t.enc]=t.enc:=by rw [Ty.H8];rfl
variable (t:Tm)
theorem O7:DV.agg [A7 0 t.enc,A7 1 t.enc,A7 2 t.enc,A7 3 t.enc,A7 4 t.enc,A7 5 t.enc,A7 6 t.enc,A7 7 t.enc,A7 8 t.enc,A7 9 t.enc,A7 10 t.enc,A7 11 t.enc,A7 12 t.enc,A7 13 t.enc,A7 14 t.enc,A7 15 t.enc,A7 16 t.enc,A7 17 t.enc,A7 18 t.enc,A7 19 t.enc]=t.enc:=by rw [Tm.H8];rfl
theorem nK:DV.agg [A7 11 t.enc,A7 12 t.enc,A7 13 t.enc]=t.a.enc:=by rw [Tm.H8,Ty.H8];rfl
theorem tmB:DV.agg [A7 14 t.enc,A7 15 t.enc,A7 16 t.enc]=t.b.enc:=by rw [Tm.H8,Ty.H8];rfl
theorem rsE (r:AC):DV.agg [A7 0 r.enc,A7 1 r.enc,A7 2 r.enc,A7 3 r.enc,A7 4 r.enc,A7 5 r.enc,A7 6 r.enc,A7 7 r.enc,A7 8 r.enc,A7 9 r.enc,A7 10 r.enc,A7 11 r.enc,A7 12 r.enc,A7 13 r.enc,A7 14 r.enc]=r.enc:=rfl
variable {t:Ty} {i:Nat}
theorem tyI (h:i<t.kids.length):F5 3 (.list 3 (t.kids.map Ty.enc)) (.int .i64 (i:Int))=some (t.kd i).enc:=by rw [I8 h,Ty.Xk h]
theorem C07 (h:0<t.kids.length):F5 3 (.list 3 (t.kids.map Ty.enc)) (.int .i64 0)=some (t.kd 0).enc:=tyI h
theorem C08 (h:1<t.kids.length):F5 3 (.list 3 (t.kids.map Ty.enc)) (.int .i64 1)=some (t.kd 1).enc:=tyI h
variable {t:Tm}
theorem tmI (h:i<t.kids.length):F5 20 (.list 20 (t.kids.map Tm.enc)) (.int .i64 (i:Int))=some (t.kd i).enc:=by rw [I8 h,Tm.Xk h]
theorem C3t (h:0<t.kids.length):F5 20 (.list 20 (t.kids.map Tm.enc)) (.int .i64 0)=some (t.kd 0).enc:=tmI h
theorem C3u (h:1<t.kids.length):F5 20 (.list 20 (t.kids.map Tm.enc)) (.int .i64 1)=some (t.kd 1).enc:=tmI h
theorem C3v (h:2<t.kids.length):F5 20 (.list 20 (t.kids.map Tm.enc)) (.int .i64 2)=some (t.kd 2).enc:=tmI h
variable (t:Tm) (k:Int)
theorem kq:A8 .eql (A7 0 t.enc) (.int .i64 k)=some (.bool (decide (t.kind=k))):=by rw [Tm.Y3,M0]
theorem kn:A8 .neq (A7 0 t.enc) (.int .i64 k)=some (.bool (!decide (t.kind=k))):=by rw [Tm.Y3,Ap]
theorem aq:A8 .eql (A7 11 t.enc) (.int .i64 k)=some (.bool (decide (t.a.kind=k))):=by rw [Tm.Qm,M0]
theorem an:A8 .neq (A7 11 t.enc) (.int .i64 k)=some (.bool (!decide (t.a.kind=k))):=by rw [Tm.Qm,Ap]
theorem bq:A8 .eql (A7 14 t.enc) (.int .i64 k)=some (.bool (decide (t.b.kind=k))):=by rw [Tm.Uw,M0]
theorem bn:A8 .neq (A7 14 t.enc) (.int .i64 k)=some (.bool (!decide (t.b.kind=k))):=by rw [Tm.Uw,Ap]
theorem abn:A8 .neq (A7 11 t.enc) (A7 14 t.enc)=some (.bool (!decide (t.a.kind=t.b.kind))):=by rw [Tm.Qm,Tm.Uw,Ap]
theorem abq:A8 .eql (A7 11 t.enc) (A7 14 t.enc)=some (.bool (decide (t.a.kind=t.b.kind))):=by rw [Tm.Qm,Tm.Uw,M0]
theorem tq (t:Ty) (k:Int):A8 .eql (A7 0 t.enc) (.int .i64 k)=some (.bool (decide (t.kind=k))):=by rw [Ty.Y3,M0]
variable {t:Tm}
theorem x0 (h:0<t.kids.length):F5 20 (A7 19 t.enc) (.int .i64 0)=some (t.kd 0).enc:=by rw [Tm.Cs,C3t h]
theorem x1 (h:1<t.kids.length):F5 20 (A7 19 t.enc) (.int .i64 1)=some (t.kd 1).enc:=by rw [Tm.Cs,C3u h]
theorem x2 (h:2<t.kids.length):F5 20 (A7 19 t.enc) (.int .i64 2)=some (t.kd 2).enc:=by rw [Tm.Cs,C3v h]
theorem xI (h:i<t.kids.length):F5 20 (A7 19 t.enc) (.int .i64 (i:Int))=some (t.kd i).enc:=by rw [Tm.Cs,tmI h]
theorem aL (t:Tm):dLen (A7 13 t.enc)=some (.int .i64 t.a.kids.length):=by rw [Tm.eU,K5,z3q]
theorem yI {t:Ty} (h:i<t.kids.length):F5 3 (A7 2 t.enc) (.int .i64 (i:Int))=some (t.kd i).enc:=by rw [Ty.El,tyI h]
theorem aI0 (h:0<t.a.kids.length):F5 3 (A7 13 t.enc) (.int .i64 0)=some (t.a.kd 0).enc:=by rw [Tm.eU,C07 h]
theorem aI1 (h:1<t.a.kids.length):F5 3 (A7 13 t.enc) (.int .i64 1)=some (t.a.kd 1).enc:=by rw [Tm.eU,C08 h]
theorem bI0 (h:0<t.b.kids.length):F5 3 (A7 16 t.enc) (.int .i64 0)=some (t.b.kd 0).enc:=by rw [Tm.A9m,C07 h]
theorem bI1 (h:1<t.b.kids.length):F5 3 (A7 16 t.enc) (.int .i64 1)=some (t.b.kd 1).enc:=by rw [Tm.A9m,C08 h]
theorem Z8:DV.agg ((.int .i64 0)::(Cw []))=FX.enc:=by rw [Tm.H8];rfl
theorem BM:DV.agg ((.int .i64 0)::(Bh [.int .i64 0]))=(Y6 0).enc:=rfl
theorem A0L:DV.agg ((.int .i64 k)::(Bh [.int .i64 0]))=(Y6 k).enc:=rfl
theorem B3y (l:Int) (n:Bool):DV.agg ((.int .i64 2)::(uw [.int .i64 l, .bool n, .int .i64 0, .int .i64 0, .int .i64 0]))=(A8j l n).enc:=rfl
theorem B1J:DV.agg (Kt [])=BA.enc:=by rw [Ty.H8];rfl
theorem B69:DV.agg [.int .i64 5, .int .i64 0, .list 3 []]=YL.enc:=by rw [Ty.H8];rfl
theorem A2u:DV.agg [.int .i64 k, .int .i64 0, .list 3 (List.replicate (arity k).toNat YL.enc)]=(K8 k).enc:=by
 rw [Ty.H8 (K8 k),K8];simp only [Ty.Ca,Ty.SV,Ty.Q6,List.map_replicate]
theorem A8o (n:Nat) (h:n<=2) (d:DV):Be 3 (.list 3 (List.replicate n d)) (.list 3 [d])=some (.list 3 (List.replicate (n+1) d)):=by
 rw [Sn (by simp [lim];omega),List.replicate_succ']
theorem A5m:(run cfg).p TK [.int .i64 5]=some YL.enc:=by
 refine (xh _).trans ?_;rw [A1F];simp [B69]
theorem zz {k:Int} (hk:0<=arity k):(run cfg).p aP [.int .i64 k]=some (K8 k).enc:=by
 refine (A4w _).trans ?_;have al:=A2Q k;have loop:∀ (m j:Nat),(j:Int)+m=arity k->Wm (run cfg) (.int .i64 k) (.int .i64 j) (.int .i64 k) (.list 3 (List.replicate j YL.enc))=some (K8 k).enc:=by
  intro m
  induction m with
  | zero =>
    intro j hj;rw [bL];have:¬ (j:Int)<arity k:=by omega
    simp only [jf,E9,H7,this,decide_false,C8,z0q,if_false];rw [<- A2u,show (arity k).toNat=j by omega]
  | succ m ih =>
    intro j hj;rw [bL];have:(j:Int)<arity k:=by omega
    simp only [jf,E9,H7,this,decide_true,C8,if_true,A5m,R5,D6,A8o j (by omega),N9 (show j<9223372036854775807 by omega)]
    exact ih (j+1) (by omega)
 rw [A6A];simp only [AJ,D6];exact loop (arity k).toNat 0 (by omega)
variable {t:Ty}
theorem WU (h:t.right=true):(run cfg).p Lx [t.enc]=some (if t.kind≠5/\t.kind≠6 then .F3 [(K8 t.kind).enc, .bool true] else .F3 [BA.enc, .bool false]):=by
 refine (gV _).trans ?_;have hl:=Ty.Cm h;have al:=A2Q t.kind;have loop:∀ (m j:Nat),j+m=t.kids.length->Jv (run cfg) (.int .i64 t.kids.length) (.int .i64 j) (.int .i64 t.kind) (.list 3 (List.replicate j YL.enc))=some (.F3 [(K8 t.kind).enc, .bool true]):=by
  intro m
  induction m with
  | zero =>
    intro j hj;rw [Ny];have:¬ (j:Int)<(t.kids.length:Int):=by omega
    simp only [E9,H7,this,decide_false,C8,z0q,if_false];rw [<- A2u,show (arity t.kind).toNat=j by omega]
  | succ m ih =>
    intro j hj;rw [Ny];have:(j:Int)<(t.kids.length:Int):=by omega
    simp only [E9,H7,this,decide_true,C8,if_true,B69,A8o j (by omega),N9 (show j<9223372036854775807 by omega)]
    exact ih (j+1) (by omega)
 have p12:Bb (run cfg) t.enc (.int .i64 t.kind)=some (.F3 [(K8 t.kind).enc, .bool true]):=by
  rw [Yw];simp only [Ty.El,K5,z3q,E9];exact loop t.kids.length 0 (by omega)
 rw [ky];have hr:1<=t.kind/\t.kind<=9:=by
  unfold arity at hl
  repeat' split at hl
  all_goals omega
 simp only [R5,D6,Px,GG t (Ty.Bq h),h,F8,if_true,Ap,C8,decide_true,z9q,z0q,if_false];simp only [Ty.Y3,AJ,D6,M0,F8,C8,decide_eq_true_eq,p12,B1J]
 by_cases k:t.kind=5\/t.kind=6
 ·rw [if_neg (by omega),if_neg (by omega),if_neg (by omega),if_neg (by omega),if_neg (by omega),if_neg (by omega),if_neg (by omega),if_neg (by omega)]
 ·rw [if_pos (show t.kind≠5/\t.kind≠6 by omega)]
  repeat' split
  all_goals first | rfl | omega
theorem A7I (h:t.right=true):(run cfg).p aO [t.enc]=some (if t.kind≠5/\t.kind≠6 then .F3 [(K8 t.kind).enc, .bool true] else .F3 [BA.enc, .bool false]):=by
 have hl:=Ty.Cm h;refine (lv _).trans ?_;rw [rR];simp only [R5,D6,Px,tq,F8,H5,C8,decide_eq_true_eq,B1J];rw [Ty.Y3,zz (show 0<=arity t.kind by omega)]
 simp only [F8,R5,D6,Px]
 by_cases k5:t.kind=5
 ·rw [if_pos k5,if_neg (fun h=>h.1 k5)]
 rw [if_neg k5]
 by_cases k6:t.kind=6
 ·rw [if_pos k6,if_neg (fun h=>h.2 k6)]
 rw [if_neg k6,if_pos ⟨k5,k6⟩]
theorem dP (h:t.right=true):(K8 t.kind).thin=true:=Ty.Bq (uP (by have:=Ty.Cm h;omega))
theorem B4i (t:Ty):t.isG=if t.kind≠5/\t.kind≠6 then decide (K8 t.kind=t) else false:=by
 unfold Ty.isG
 by_cases k:t.kind≠5/\t.kind≠6
 ·rw [if_pos k];simp [k,eq_comm]
 ·rw [if_neg k]
  simp only [decide_eq_false_iff_not];exact fun h=>k ⟨h.1,h.2.1⟩
theorem A3d (h:t.right=true):(run cfg).p TI [t.enc]=some (.bool t.isG):=by
 refine (ZE _).trans ?_;rw [bG,B4i];simp only [R5,D6,Px,WU h,F8]
 by_cases k:t.kind≠5/\t.kind≠6
 ·rw [if_pos k,if_pos k]
  simp only [BI,BJ,F8,R5,D6,H5,if_true,Px,XF _ (dP h)]
 ·rw [if_neg k,if_neg k]
  simp only [BI,BJ,F8,R5,D6,H5,z0q,if_false]
theorem A7K (h:t.right=true):(run cfg).p aR [t.enc]=some (.bool t.isG):=by
 refine (mD _).trans ?_;rw [rX,B4i];simp only [R5,D6,Px,A7I h,F8]
 by_cases k:t.kind≠5/\t.kind≠6
 ·rw [if_pos k,if_pos k]
  simp only [BI,BJ,F8,R5,D6,H5,if_true,Px,Fv _ (dP h)]
 ·rw [if_neg k,if_neg k]
  simp only [BI,BJ,F8,R5,D6,H5,z0q,if_false]
variable {t:Tm}
theorem A52 (h:t.right=true) (k:t.kind=16):(run cfg).p Xv [t.enc]=some (.bool (Ep t.a t.b)):=by
 obtain ⟨ra,rb,-⟩:=Tm.Bd h k;refine (gT _).trans ?_;rw [ku];unfold Ep;simp only [F9,D6,nK,aq,bq,abn,F8,C8,H5,decide_eq_true_eq,A3d ra,z6q,decide_eq_false_iff_not]
 by_cases b5:t.b.kind=5
 ·rw [if_pos b5,if_pos b5]
 rw [if_neg b5,if_neg b5]
 by_cases ab:t.a.kind=t.b.kind
 ·rw [if_neg (fun h=>h ab)]
  by_cases k7:t.a.kind=7
  ·rw [if_pos k7];simp [k7,<- ab]
  rw [if_neg k7]
  by_cases k8:t.a.kind=8
  ·rw [if_pos k8];simp [<- ab,k8]
  rw [if_neg k8];simp [<- ab,k7,k8]
 ·rw [if_pos ab];simp [ab]
theorem all1 (h:t.kids.length=1) (f:Tm->Bool):t.kids.all f=f (t.kd 0):=by
 conv=>lhs;rw [Tm.NW h]
 simp
theorem all2 (h:t.kids.length=2) (f:Tm->Bool):t.kids.all f=(f (t.kd 0) && f (t.kd 1)):=by
 conv=>lhs;rw [Tm.C1R h]
 simp
theorem Bp (t:Tm):t.right=true->(run cfg).p Cf [t.enc]=some (.bool t.J2):=by
 induction t using Tm.ind with
 | h t ih =>
   intro rt;refine (lq _).trans ?_;rw [rH,Tm.Jj];have p11:t.kids.length=2->NA (run cfg) t.enc=some (.bool (t.kids.all Tm.J2)):=by
    intro l2;rw [bJ,all2 l2];simp only [x0 (show 0<t.kids.length by omega),x1 (show 1<t.kids.length by omega),F8,O7,ih _ (Tm.R9 (show 0<t.kids.length by omega)) (Tm.AL rt (by omega)),ih _ (Tm.R9 (show 1<t.kids.length by omega)) (Tm.AL rt (by omega)),H5]
    cases (t.kd 0).J2 <;> rfl
   simp only [F9,D6,kq,F8,C8,decide_eq_true_eq,O7]
   by_cases hv:t.kind=2\/t.kind=3\/t.kind=4\/t.kind=5\/t.kind=7\/t.kind=9
   ·rw [if_pos hv]
    rcases hv with h | h | h | h | h | h <;> simp [h]
   rw [if_neg hv,if_neg (by omega),if_neg (by omega),if_neg (by omega),if_neg (by omega),if_neg (by omega),if_neg (by omega)]
   by_cases h6:t.kind=6
   ·rw [if_pos h6,if_pos (.inl h6),p11 (Tm.Eh rt (.inl h6))]
   rw [if_neg h6]
   by_cases h8:t.kind=8
   ·rw [if_pos h8,if_pos (.inr h8),p11 (Tm.Eh rt (.inr (.inl h8)))]
   rw [if_neg h8,if_neg (show ¬ (t.kind=6\/t.kind=8) by omega)]
   by_cases mW:t.kind=16
   ·have l1:=Tm.Cr rt (.inr mW)
    rw [if_pos mW,if_pos mW,all1 l1];simp only [A52 rt mW,F8,H5,x0 (show 0<t.kids.length by omega),O7,ih _ (Tm.R9 (show 0<t.kids.length by omega)) (Tm.AL rt (by omega))]
    cases Ep t.a t.b <;> rfl
   ·rw [if_neg mW,if_neg mW]
theorem C29 {t:Ty} (h:t.right=true):0<t.kids.length ↔ (t.kind=7\/t.kind=8\/t.kind=9):=by
 have hl:=Ty.Cm h;unfold arity at hl;constructor
 ·intro h0
  repeat' split at hl
  all_goals omega
 ·intro k
  repeat' split at hl
  all_goals omega
theorem Pg (t:Tm):t.right=true->(run cfg).p Dm [t.enc]=some (.bool t.J2):=by
 induction t using Tm.ind with
 | h t ih =>
   intro rt;refine (gZ _).trans ?_;rw [lI,Tm.Jj];have p11:t.kids.length=2->LQ (run cfg) t.enc=some (.bool (t.kids.all Tm.J2)):=by
    intro l2;rw [Yy,all2 l2];simp only [x0 (show 0<t.kids.length by omega),x1 (show 1<t.kids.length by omega),F8,O7,ih _ (Tm.R9 (show 0<t.kids.length by omega)) (Tm.AL rt (by omega)),ih _ (Tm.R9 (show 1<t.kids.length by omega)) (Tm.AL rt (by omega)),H5]
    cases (t.kd 0).J2 <;> rfl
   simp only [F9,D6,kq,F8,C8,decide_eq_true_eq,O7]
   by_cases hv:t.kind=2\/t.kind=3\/t.kind=4\/t.kind=5\/t.kind=7\/t.kind=9
   ·rw [if_pos hv]
    rcases hv with h | h | h | h | h | h <;> simp [h]
   rw [if_neg hv,if_neg (by omega),if_neg (by omega),if_neg (by omega),if_neg (by omega),if_neg (by omega),if_neg (by omega)]
   by_cases h6:t.kind=6
   ·rw [if_pos h6,if_pos (.inl h6),p11 (Tm.Eh rt (.inl h6))]
   rw [if_neg h6]
   by_cases h8:t.kind=8
   ·rw [if_pos h8,if_pos (.inr h8),p11 (Tm.Eh rt (.inr (.inl h8)))]
   rw [if_neg h8,if_neg (show ¬ (t.kind=6\/t.kind=8) by omega)]
   by_cases mW:t.kind=16
   ·have l1:=Tm.Cr rt (.inr mW)
    obtain ⟨ra,rb,-⟩:=Tm.Bd rt mW;rw [if_pos mW,if_pos mW,all1 l1];have p14:∀ b:Bool,LU (run cfg) (.bool b) t.enc=some (.bool ((b || (decide (t.b.kind=5) && t.a.isG)) && (t.kd 0).J2)):=by
     intro b;rw [Yz];simp only [F8,H5,bq,nK,A7K ra,x0 (show 0<t.kids.length by omega),O7,ih _ (Tm.R9 (show 0<t.kids.length by omega)) (Tm.AL rt (by omega))]
     cases b <;> cases t.a.isG <;> by_cases b5:t.b.kind=5 <;> simp [b5]
    simp only [abq,aL,F8,X8,p14,H5];have lk:=C29 ra;unfold Ep
    by_cases ab:t.a.kind=t.b.kind
    ·rw [if_pos (by simpa using ab)]
     by_cases b5:t.b.kind=5
     ·rw [if_pos b5]
      have:¬ 0<t.a.kids.length:=fun h=>by have:=lk.1 h;omega
      simp [b5,this]
     ·rw [if_neg b5]
      congr 2
      have e:decide ((0:Int)<t.a.kids.length)=decide (t.a.kind=7\/t.a.kind=8\/t.a.kind=9):=by
       rw [decide_eq_decide];omega
      rw [e];simp [b5,ab]
    ·rw [if_neg (by simpa using ab)]
     by_cases b5:t.b.kind=5
     ·rw [if_pos b5];simp [b5]
     ·rw [if_neg b5];simp [b5,ab]
   ·rw [if_neg mW,if_neg mW]
end Go.Su

/-
 The calculus: casts of values; casts one around another.
-/
namespace Go.Su
noncomputable def SR.enc:SR->DV
 | .ok t => .F3 [t.enc,(Y6 0).enc]
 | .fin r => .F3 [FX.enc,r.enc]
variable (c:Tm)
theorem B65 (q:Bool) (a b:Ty) (t:Tm):DV.agg ((.int .i64 16)::(Nb (Xu [A7 8 c.enc, .bool q, .list 1 [],A7 0 a.enc,A7 1 a.enc,A7 2 a.enc,A7 0 b.enc,A7 1 b.enc,A7 2 b.enc, .list 3 [], .list 7 [], .list 20 [t.enc]])))=(I4 c q a b t).enc:=by
 rw [Tm.H8 (I4 c q a b t),Tm.W_,Ty.Y3,Ty.JX,Ty.El,Ty.Y3,Ty.JX,Ty.El];rfl
variable (t:Tm)
theorem A71:I6 (A7 8 t.enc)=true:=by rw [Tm.W_];rfl
theorem B1S:I6 (A7 9 t.enc)=true:=by rw [Tm.Ux];rfl
theorem zn (q:Bool) (a b:Ty) (t:Tm):(run cfg).p Da [c.enc, .bool q,a.enc,b.enc,t.enc]=some (I4 c q a b t).enc:=by
 refine (sS _ _ _ _ _).trans ?_;rw [wX];simp only [F9,R5,D6,A71,A2v,O7,B65]
theorem MR (a b:Ty) (t:Tm):(run cfg).p Da [c.enc,A7 9 c.enc,a.enc,b.enc,t.enc]=some (I4 c c.neg a b t).enc:=by rw [Tm.Ux,zn]
theorem Qq (a b:Ty) (t:Tm):(run cfg).p Gw [c.enc,a.enc,b.enc,t.enc]=some (I4 c c.neg a b t).enc:=by
 refine (yE _ _ _ _).trans ?_;rw [A1U];simp only [F9,R5,D6,A71,B1S,O7];rw [Tm.Ux,B65]
theorem JA:(run cfg).p Au []=some (SR.fin A_).enc:=by
 refine A38 ?_;rw [rF,Z8,A0L];rfl
theorem Ht:(run cfg).p Y9 []=some A_.enc:=by
 refine A7n ?_;rw [A1X,A0L];rfl
variable (x:SR)
theorem SR.Yh:I9 0 x.enc=some (match x with | .ok t=>t.enc | .fin _=>FX.enc):=by cases x <;> exact BI _ _
theorem SR.Yi:I9 1 x.enc=some (match x with | .ok _=>(Y6 0).enc | .fin r=>r.enc):=by cases x <;> exact BJ _ _ _
theorem SR.Hg:(ob (I9 0 x.enc) fun d=>ob (I9 1 x.enc) fun e=>og (C9 20 d) <| og (C9 15 e) <| some (DV.F3 [(DV.agg [A7 0 d,A7 1 d,A7 2 d,A7 3 d,A7 4 d,A7 5 d,A7 6 d,A7 7 d,A7 8 d,A7 9 d,A7 10 d,A7 11 d,A7 12 d,A7 13 d,A7 14 d,A7 15 d,A7 16 d,A7 17 d,A7 18 d,A7 19 d]),(DV.agg [A7 0 e,A7 1 e,A7 2 e,A7 3 e,A7 4 e,A7 5 e,A7 6 e,A7 7 e,A7 8 e,A7 9 e,A7 10 e,A7 11 e,A7 12 e,A7 13 e,A7 14 e])]))=some x.enc:=by
 rw [SR.Yh,SR.Yi];cases x <;> simp only [F8,F9,K9,D6,O7,rsE] <;> rfl
theorem okE:DV.F3 [t.enc,(Y6 0).enc]=(SR.ok t).enc:=rfl
theorem A8C (r:AC):DV.F3 [FX.enc,r.enc]=(SR.fin r).enc:=rfl
theorem A83 {t:Ty}:(decide ((t.kids.length:Int)=0))=decide (t.kids=[]):=by
 rw [decide_eq_decide];constructor
 ·intro h;exact zuq (by omega)
 ·intro h;rw [h];rfl
theorem ug {t v:Tm} (rt:t.right=true) (k:t.kind=16) (rv:v.right=true):(run cfg).p aM [t.enc,v.enc]=some (V7 t v).enc:=by
 obtain ⟨ra,rb,-⟩:=Tm.Bd rt k;refine (lV _ _).trans ?_;rw [q_];simp only [F9,D6,aL,F8,M0,H5,A83,decide_eq_true_eq,nK,tmB,XF _ (Ty.Bq ra),C8,O7,BM,okE]
 by_cases h0:t.a.kids=[]/\t.a=t.b
 ·rw [if_pos h0.1,if_pos h0.2]
  unfold V7;rw [if_pos h0]
 ·have e:∀ {X:Option DV} (A:Option DV),(if t.a.kids=[] then (if t.a=t.b then A else X) else X)=X:=by
   intro X A
   split
   ·split
    ·exact absurd ⟨‹_›,‹_›⟩ h0
    ·rfl
   ·rfl
  rw [e,gF];unfold V7;rw [if_neg h0];simp only [nK,tmB,aq,bq,F8,C8,decide_eq_true_eq,WU ra,WU rb,JA,SR.Hg]
  by_cases a5:t.a.kind=5
  ·rw [if_pos a5,if_pos a5]
   by_cases b56:t.b.kind=5\/t.b.kind=6
   ·rw [if_pos b56,if_neg (show ¬ (t.b.kind≠5/\t.b.kind≠6) by omega)]
    simp only [BI,BJ,F8,R5,D6,M8,C8,zrq,if_true]
   rw [if_neg b56,if_pos (show t.b.kind≠5/\t.b.kind≠6 by omega)]
   simp only [BI,BJ,F8,R5,D6,M8,C8,z9q,z0q,if_false,Px,XF _ (Ty.Bq rb),z6q,decide_eq_false_iff_not]
   by_cases bg:t.b=K8 t.b.kind
   ·rw [if_neg (fun h=>h bg),if_neg (fun h=>h bg)]
    simp only [kn,F8,H5,bn,C8,z6q,decide_eq_false_iff_not]
    by_cases v16:v.kind=16
    ·obtain ⟨va,vb,-⟩:=Tm.Bd rv v16
     have l1:=Tm.Cr rv (.inr v16);rw [if_neg (fun h=>h v16)]
     by_cases vb5:v.b.kind=5
     ·rw [if_neg (fun h=>h vb5),if_neg (show ¬ (v.kind≠16\/v.b.kind≠5) from fun h=>h.elim (fun h=>h v16) (fun h=>h vb5))]
      simp only [nK,XF _ (Ty.Bq va),F8,C8,decide_eq_true_eq,x0 (show 0<v.kids.length by omega),O7,BM,okE,A71,B1S,D6,Z8]
      by_cases vg:v.a=K8 t.b.kind
      ·rw [if_pos vg,if_pos vg]
      ·rw [if_neg vg,if_neg vg,Tm.W_,Tm.Ux,B3y,A8C]
     ·rw [if_pos vb5,if_pos (.inr vb5)]
    ·rw [if_pos v16,if_pos (.inl v16)]
   ·rw [if_pos bg,if_pos bg]
    simp only [O7,MR,F8,F9,D6,BM,okE]
  ·rw [if_neg a5,if_neg a5]
   by_cases b5:t.b.kind=5
   ·rw [if_pos b5,if_pos b5]
    by_cases a6:t.a.kind=6
    ·rw [if_pos a6,if_neg (fun h=>h.2 a6)]
     simp only [BI,BJ,F8,R5,D6,C8,z0q,if_false]
    ·rw [if_neg a6,if_pos ⟨a5,a6⟩]
     simp only [BI,BJ,F8,R5,D6,C8,if_true,Px,O7,MR,F9,BM,okE]
   ·rw [if_neg b5,if_neg b5]
theorem ul {t v:Tm} (rt:t.right=true) (k:t.kind=16) (rv:v.right=true):(run cfg).p aS [t.enc,v.enc]=some (V7 t v).enc:=by
 obtain ⟨ra,rb,-⟩:=Tm.Bd rt k;have la:=Ty.Cm ra;have lb:=Ty.Cm rb;refine (mF _ _).trans ?_;rw [rZ];simp only [F9,D6,aL,F8,M0,H5,A83,decide_eq_true_eq,nK,tmB,Fv _ (Ty.Bq ra),C8,O7,BM,okE]
 by_cases h0:t.a.kids=[]/\t.a=t.b
 ·rw [if_pos h0.1,if_pos h0.2]
  unfold V7;rw [if_pos h0]
 ·have e:∀ {X:Option DV} (A:Option DV),(if t.a.kids=[] then (if t.a=t.b then A else X) else X)=X:=by
   intro X A
   split
   ·split
    ·exact absurd ⟨‹_›,‹_›⟩ h0
    ·rfl
   ·rfl
  have dd:t.a.kind=5->t.b.kind≠5:=fun a5 b5=>h0 ⟨by rw [Ty.kg ra a5];rfl,by rw [Ty.kg ra a5,Ty.kg rb b5]⟩
  rw [e,gK];unfold V7;rw [if_neg h0];simp only [aq,bn,F8,H5,C8,decide_eq_true_eq,z6q,decide_eq_false_iff_not]
  by_cases a5:t.a.kind=5
  ·have b5:=dd a5
   rw [if_pos a5,if_pos a5]
   by_cases b6:t.b.kind=6
   ·rw [if_neg (fun h=>h b6),if_pos (.inr b6),Rw]
    simp only [bq,F8,H5,decide_eq_true_eq,Ht,K9,D6,Z8,rsE,A8C];rw [if_neg b5]
   rw [if_pos b6,if_neg (show ¬ (t.b.kind=5\/t.b.kind=6) by omega),Tm.Uw,zz (by omega)]
   rw [<- Tm.Uw t];simp only [F8,R5,D6,Px,tmB,Fv _ (dP rb),M8,C8,z6q,decide_eq_false_iff_not]
   by_cases bg:t.b=K8 t.b.kind
   ·rw [if_neg (show ¬ ¬ K8 t.b.kind=t.b from fun h=>h bg.symm),if_neg (show ¬ t.b≠K8 t.b.kind from fun h=>h bg)]
    simp only [kn,F8,H5,bn,C8,z6q,decide_eq_false_iff_not,Ht,K9,D6,Z8,rsE,A8C]
    by_cases v16:v.kind=16
    ·obtain ⟨va,vb,-⟩:=Tm.Bd rv v16
     have l1:=Tm.Cr rv (.inr v16);rw [if_neg (fun h=>h v16)]
     by_cases vb5:v.b.kind=5
     ·rw [if_neg (fun h=>h vb5),if_neg (show ¬ (v.kind≠16\/v.b.kind≠5) from fun h=>h.elim (fun h=>h v16) (fun h=>h vb5))]
      simp only [nK,Fv _ (Ty.Bq va),F8,C8,decide_eq_true_eq,x0 (show 0<v.kids.length by omega),O7,BM,okE,A71,B1S,D6,Z8]
      by_cases vg:v.a=K8 t.b.kind
      ·rw [if_pos vg,if_pos vg]
      ·rw [if_neg vg,if_neg vg,Tm.W_,Tm.Ux,B3y,A8C]
     ·rw [if_pos vb5,if_pos (.inr vb5)]
    ·rw [if_pos v16,if_pos (.inl v16)]
   ·rw [if_pos (fun h=>bg h.symm),if_pos bg]
    simp only [nK,tmB,O7,Qq,F8,F9,D6,BM,okE]
  ·rw [if_neg a5,if_neg a5,Rw]
   simp only [bq,an,F8,H5,C8,decide_eq_true_eq,z6q,decide_eq_false_iff_not,Ht,K9,D6,Z8,rsE,A8C]
   by_cases b5:t.b.kind=5
   ·rw [if_pos b5,if_pos b5]
    by_cases a6:t.a.kind=6
    ·rw [if_neg (fun h=>h a6),if_pos a6]
    ·rw [if_pos a6,if_neg a6,Tm.Qm,zz (by omega)]
     rw [<- Tm.Qm t];simp only [F8,R5,D6,Px,nK,tmB,O7,Qq,F9,BM,okE]
   ·rw [if_neg b5,if_neg b5]
end Go.Su

/-
 The calculus: parts of types, chains of casts; one step from a kid's step.
-/
namespace Go.Su
variable {i:Nat}
theorem zo {y:Ty} (hi:i=0\/i=1) (h:y.kind=8/\i=1\/i<y.kids.length):(run cfg).p Hl [y.enc, .int .i64 (i:Int)]=some (partT y i).enc:=by
 refine (sV _ _).trans ?_;rw [wZ];unfold partT;simp only [R5,D6,tq,F8,H5,decide_eq_true_eq,M0,C8,Px]
 by_cases k8:y.kind=8
 ·rw [if_pos k8]
  rcases hi with rfl | rfl
  ·rw [if_neg (by decide),if_neg (fun h=>by cases h.2),yI (show 0<y.kids.length by omega)]
   simp only [F8,Px]
  ·rw [if_pos (by decide),if_pos ⟨k8,rfl⟩]
 ·rw [if_neg k8,if_neg (fun h=>k8 h.1),yI (show i<y.kids.length by omega)]
  simp only [F8,Px]
theorem A2J {y:Ty} (hi:i=0\/i=1) (h:y.kind=8/\i=1\/i<y.kids.length):(run cfg).p Za [y.enc, .int .i64 (i:Int)]=some (partT y i).enc:=by
 refine (yG _ _).trans ?_;rw [A1W];unfold partT;simp only [R5,D6,tq,F8,H5,decide_eq_true_eq,M0,C8,Px]
 by_cases k8:y.kind=8
 ·rw [if_pos k8]
  rcases hi with rfl | rfl
  ·rw [if_neg (by decide),if_neg (fun h=>by cases h.2),yI (show 0<y.kids.length by omega)]
   simp only [F8,Px]
  ·rw [if_pos (by decide),if_pos ⟨k8,rfl⟩]
 ·rw [if_neg k8,if_neg (fun h=>k8 h.1),yI (show i<y.kids.length by omega)]
  simp only [F8,Px]
theorem A5B {t:Tm} (k:t.kind=16) (l1:t.kids.length=1):t.chain=(t.kd 0).chain++[t]/\t.inner=(t.kd 0).inner:=by
 rw [Tm.bC,Tm.dh,if_pos k,if_pos k,Tm.NW l1];exact ⟨rfl,rfl⟩
theorem wO {t:Tm} (k:t.kind≠16):t.chain=[]/\t.inner=t:=by
 rw [Tm.bC,Tm.dh,if_neg k,if_neg k];exact ⟨rfl,rfl⟩
variable (t:Tm)
theorem uh:t.right=true->t.chain.length<=lim->∀ sg,(run cfg).r Ng [(t.enc, .val)] sg=some ([.list 20 (t.chain.map Tm.enc),t.inner.enc],sg):=by
 induction t using Tm.ind with
 | h t ih =>
   intro rt hs sg;rw [lW,rA];simp only [F9,D6,kn,F8,C8,z6q,decide_eq_false_iff_not,O7]
   by_cases k:t.kind=16
   ·have l1:=Tm.Cr rt (.inr k)
    obtain ⟨c1,c2⟩:=A5B k l1;have hz:(t.kd 0).chain.length+1<=lim:=by rw [c1,ztq] at hs;simpa using hs
    rw [if_neg (fun h=>h k),x0 (by omega)]
    simp only [F8,O7,ih _ (Tm.R9 (show 0<t.kids.length by omega)) (Tm.AL rt (by omega)) (by omega) sg,BI,BJ,F9,D6]
    rw [GZ (by omega)]
    simp only [F8,c1,c2]
   ·rw [if_pos k,(wO k).1,(wO k).2]
    rfl
theorem A7L:t.right=true->t.chain.length<=lim->∀ sg,(run cfg).r TP [(t.enc, .val)] sg=some ([t.inner.enc, .list 20 (t.chain.map Tm.enc)],sg):=by
 induction t using Tm.ind with
 | h t ih =>
   intro rt hs sg;rw [mE,rY];simp only [F9,D6,kn,F8,C8,z6q,decide_eq_false_iff_not,O7]
   by_cases k:t.kind=16
   ·have l1:=Tm.Cr rt (.inr k)
    obtain ⟨c1,c2⟩:=A5B k l1;have hz:(t.kd 0).chain.length+1<=lim:=by rw [c1,ztq] at hs;simpa using hs
    rw [if_neg (fun h=>h k),x0 (by omega)]
    simp only [F8,O7,ih _ (Tm.R9 (show 0<t.kids.length by omega)) (Tm.AL rt (by omega)) (by omega) sg,BI,BJ,F9,D6]
    rw [GZ (by omega)]
    simp only [F8,c1,c2]
   ·rw [if_pos k,(wO k).1,(wO k).2]
    rfl
theorem C3q (n:Nat) (y:Tm):U0 [.arr 20 ((t.kids.map Tm.enc).set n y.enc)] [(A7 0 t.enc,Meta.val),(A7 1 t.enc,Meta.val),(A7 2 t.enc,Meta.val),(A7 3 t.enc,Meta.val),(A7 4 t.enc,Meta.val),(A7 5 t.enc,Meta.val),(A7 6 t.enc,Meta.val),(A7 7 t.enc,Meta.val),(A7 8 t.enc,Meta.val),(A7 9 t.enc,Meta.val),(A7 10 t.enc,Meta.val),(A7 11 t.enc,Meta.val),(A7 12 t.enc,Meta.val),(A7 13 t.enc,Meta.val),(A7 14 t.enc,Meta.val),(A7 15 t.enc,Meta.val),(A7 16 t.enc,Meta.val),(A7 17 t.enc,Meta.val),(A7 18 t.enc,Meta.val),(.undef, .arr 0 20 0 t.kids.length)]=some [A7 0 (t.Y7 n y).enc,A7 1 (t.Y7 n y).enc,A7 2 (t.Y7 n y).enc,A7 3 (t.Y7 n y).enc,A7 4 (t.Y7 n y).enc,A7 5 (t.Y7 n y).enc,A7 6 (t.Y7 n y).enc,A7 7 (t.Y7 n y).enc,A7 8 (t.Y7 n y).enc,A7 9 (t.Y7 n y).enc,A7 10 (t.Y7 n y).enc,A7 11 (t.Y7 n y).enc,A7 12 (t.Y7 n y).enc,A7 13 (t.Y7 n y).enc,A7 14 (t.Y7 n y).enc,A7 15 (t.Y7 n y).enc,A7 16 (t.Y7 n y).enc,A7 17 (t.Y7 n y).enc,A7 18 (t.Y7 n y).enc,A7 19 (t.Y7 n y).enc]:=by
 have hl:((t.kids.map Tm.enc).set n y.enc).length=t.kids.length:=by simp
 have e:(t.kids.map Tm.enc).set n y.enc=(t.kids.set n y).map Tm.enc:=by rw [zRq]
 simp only [U0,Q7,F8,BN,zkq,beq_self_eq_true,D6,zyq,zcq];rw [hl,if_pos (zgq _)];simp only [F8];rw [z8q (by omega),e]
 rw [Tm.H8 (t.Y7 n y),Tm.H8 t];rfl
theorem Hr (r:AC):A8 .neq (A7 0 r.enc) (.int .i64 0)=some (.bool (!decide (r.kind=0))):=by rw [show A7 0 r.enc = .int .i64 r.kind from rfl,Ap]
theorem C17 (g:List D8):U0 g (zz4 [])=some ((.int .i64 0)::(Bh [(.int .i64 0)])):=rfl
theorem B12:Lc 1 t.kids=if (t.kd 0).J2=true then none else some 0:=by
 unfold Lc Tm.kd;rw [zfq];cases h:(t.kids[0]?.getD FX).J2 <;> simp [yeq,h]
theorem B68:Lc 2 t.kids=if (t.kd 0).J2=true then (if (t.kd 1).J2=true then none else some 1) else some 0:=by
 unfold Lc Tm.kd;rw [zfq,zfq];cases h:(t.kids[0]?.getD FX).J2 <;> cases h1:(t.kids[1]?.getD FX).J2 <;> simp [yeq,h,h1]
noncomputable def step2 (n i:Nat) (t:Tm):Option DV:=Ol (run cfg) (.int .i64 (n:Int)) (.int .i64 (i:Int)) t.enc
theorem XN {n:Nat} (h:i<n):Am 0 n (.int .i64 (i:Int))=some i:=by
 unfold Am;simp;omega
theorem A7c {n:Nat} {t:Tm} {x:SR} (hl:i<t.kids.length) (hn:i<n) (hk:t.kids.length<=lim) (rk:(t.kd i).right=true) (hv:(t.kd i).J2=false) (hg:x.good) (hx:(run cfg).p Bz [(t.kd i).enc]=some x.enc) :
 step2 n i t=some (x.bind fun y => .ok (t.Y7 i y)).enc:=by
 unfold step2;rw [JM];simp only [H7,F8,C8,decide_eq_true_eq];rw [if_pos (by omega),xI hl]
 simp only [F8,O7,Bp _ rk,hv,C8,z0q,if_false,hx,SR.Yh,SR.Yi];cases x with
 | fin r =>
   simp only [F9,K9,D6,Hr,F8,C8,z6q,decide_eq_false_iff_not];rw [if_pos (show ¬ r.kind=0 from hg)];(try rw [rsE]);(try rw [Z8])
   rfl
 | ok y =>
   simp only [F9,K9,D6,Hr,show (Y6 0).kind=0 from rfl,F8,C8,decide_true,z9q,z0q,if_false,O7]
   rw [show Wp (A7 19 t.enc)=some (20,t.kids.map Tm.enc) by rw [Tm.Cs];rfl]
   simp only [F8,z3q,beq_self_eq_true,zxq,decide_eq_true hk,D6,XN hl,zyq];rw [show (t.kids.map Tm.enc)[i]?=some (t.kd i).enc by rw [zqq,z4q hl,Tm.Xk hl];rfl]
   simp only [F8,C3q,C17,A9s,fB,O7,BM];rfl
theorem A7d {n:Nat} {t:Tm} (hl:i<t.kids.length) (hn:i<n) (hk:i<100) (rk:(t.kd i).right=true) (hv:(t.kd i).J2=true):step2 n i t=step2 n (i+1) t:=by
 unfold step2;rw [JM];simp only [H7,F8,C8,decide_eq_true_eq];rw [if_pos (by omega),xI hl]
 simp only [F8,O7,Bp _ rk,hv,C8,if_true,U9];rw [U2 (by omega) (by omega)]
 rfl
theorem fC (k:Int):(run cfg).p iY [.int .i64 k]=some (.int .i64 (Y8 k:Nat)):=by
 refine (sU _).trans ?_;rw [wY];simp only [M0,F8,C8,decide_eq_true_eq];unfold Y8
 repeat' split
 all_goals first | rfl | omega
end Go.Su

/-
 The calculus: a cast settles; a value's parts.
-/
namespace Go.Su
noncomputable section
theorem Wo (t v:Tm):(V7 t v).good:=by
 unfold V7
 repeat' split
 all_goals first
  | trivial
  | (show (6:Int)≠0;omega)
  | (show (2:Int)≠0;omega)
def SR.fold {X:Type} (x:SR) (f:Tm->X) (g:AC->X):X :=
 match x with
 | .ok t=>f t
 | .fin r=>g r
variable {y:Ty}
theorem ui (h:y.kind=8/\0=1\/0<y.kids.length):(run cfg).p Hl [y.enc, .int .i64 0]=some (partT y 0).enc:=zo (i:=0) (.inl rfl) h
theorem uj (h:y.kind=8/\1=1\/1<y.kids.length):(run cfg).p Hl [y.enc, .int .i64 1]=some (partT y 1).enc:=zo (i:=1) (.inr rfl) h
variable {t:Tm}
theorem B28 (rt:t.right=true) (k:t.kind=16):step2 1 1 t=some (V7 t (t.kd 0)).enc:=by
 have l1:=Tm.Cr rt (.inr k);unfold step2;rw [JM];simp only [H7,F8,C8,decide_eq_true_eq,kq];rw [if_neg (by omega),if_neg (by omega),if_neg (by omega),if_neg (by omega),if_neg (by omega),if_neg (by omega),if_neg (by omega),if_pos k,x0 (by omega)]
 simp only [F8,O7,ug rt k (Tm.AL rt (show 0<t.kids.length by omega)),SR.Hg]
theorem A90 (rt:t.right=true) (k:t.kind=16) (hv:(t.kd 0).J2=true):(run cfg).p Bz [t.enc]=some t.DF.enc:=by
 have l1:=Tm.Cr rt (.inr k);refine (RY _).trans ?_;rw [UD];simp only [F9,D6];rw [Tm.Y3,fC,k];simp only [F8];have e:t.DF=V7 t (t.kd 0):=by rw [Tm.Gf,Tm.NW l1,if_pos (by simpa using hv)]
 rw [e];have s:=A7d (n:=1) (i:=0) (t:=t) (by omega) (by omega) (by omega) (Tm.AL rt (by omega)) hv
 rw [B28 rt k] at s;exact s
theorem A9Z (rt:t.right=true) (k:t.kind=16) (h:Stp t):(run cfg).p Bz [t.enc]=some t.DF.enc:=by
 rcases h with h | ⟨h1,h2,h3,h4⟩
 ·exact A90 rt k h
 ·have l1:=Tm.Cr rt (.inr k)
  have l2:=Tm.Cr h3 (.inr h2);refine (RY _).trans ?_;rw [UD];simp only [F9,D6];rw [Tm.Y3,fC,k];simp only [F8];have e:t.DF=(t.kd 0).DF.bind fun x => .ok (t.Y7 0 x):=by rw [Tm.Gf,Tm.NW l1,if_neg (by simp [h1])];rfl
  have e2:(t.kd 0).DF=V7 (t.kd 0) ((t.kd 0).kd 0):=by rw [Tm.Gf,Tm.NW l2,if_pos (by simpa using h4)]
  rw [e];exact A7c (n:=1) (i:=0) (by omega) (by omega) (by rw [l1];decide) h3 h1 (by rw [e2];exact Wo _ _) (A90 h3 h2 h4)
theorem qE (t:Tm) (k:t.kind=16) (rt:t.right=true) (h:Stp t):t.DF.good:=by
 have l1:=Tm.Cr rt (.inr k);rcases h with h | ⟨h1,h2,h3,h4⟩
 ·rw [Tm.Gf,Tm.NW l1,if_pos (by simpa using h)]
  exact Wo _ _
 ·have l2:=Tm.Cr h3 (.inr h2)
  have e2:(t.kd 0).DF=V7 (t.kd 0) ((t.kd 0).kd 0):=by rw [Tm.Gf,Tm.NW l2,if_pos (by simpa using h4)]
  rw [Tm.Gf,Tm.NW l1,if_neg (by simp [h1])]
  show ((t.kd 0).DF.bind _).good
  rw [e2];have g:=Wo (t.kd 0) ((t.kd 0).kd 0);cases hc:V7 (t.kd 0) ((t.kd 0).kd 0) with
  | ok y=>trivial
  | fin r=>rw [hc] at g;exact g
def two (a b:Tm):DV := .agg [A7 0 a.enc,A7 1 a.enc,A7 2 a.enc,A7 3 a.enc,A7 4 a.enc,A7 5 a.enc,A7 6 a.enc,A7 7 a.enc,A7 8 a.enc,A7 9 a.enc,A7 10 a.enc,A7 11 a.enc,A7 12 a.enc,A7 13 a.enc,A7 14 a.enc,A7 15 a.enc,A7 16 a.enc,A7 17 a.enc,A7 18 a.enc,A7 19 a.enc,A7 0 b.enc,A7 1 b.enc,A7 2 b.enc,A7 3 b.enc,A7 4 b.enc,A7 5 b.enc,A7 6 b.enc,A7 7 b.enc,A7 8 b.enc,A7 9 b.enc,A7 10 b.enc,A7 11 b.enc,A7 12 b.enc,A7 13 b.enc,A7 14 b.enc,A7 15 b.enc,A7 16 b.enc,A7 17 b.enc,A7 18 b.enc,A7 19 b.enc]
theorem Us (h:y.right=true) (k:y.kind=7\/y.kind=8) (i:Nat) (hi:i<2):i=1/\y.kind=8\/i<y.kids.length:=by
 have hl:=Ty.Cm h;rcases k with k | k
 ·rw [k,show arity 7=2 from rfl] at hl;omega
 ·rw [k,show arity 8=1 from rfl] at hl;omega
theorem B1G (a b:Tm):C9 40 (two a b)=true:=rfl
variable (kind:Int) (L:List Tm)
def A41 (a b:Tm):Option DV:=Rm (run cfg) (.list 20 (L.map Tm.enc)) (.int .i64 kind) (A7 0 a.enc) (A7 1 a.enc) (A7 2 a.enc) (A7 3 a.enc) (A7 4 a.enc) (A7 5 a.enc) (A7 6 a.enc) (A7 7 a.enc) (A7 8 a.enc) (A7 9 a.enc) (A7 10 a.enc) (A7 11 a.enc) (A7 12 a.enc) (A7 13 a.enc) (A7 14 a.enc) (A7 15 a.enc) (A7 16 a.enc) (A7 17 a.enc) (A7 18 a.enc) (A7 19 a.enc) (A7 0 b.enc) (A7 1 b.enc) (A7 2 b.enc) (A7 3 b.enc) (A7 4 b.enc) (A7 5 b.enc) (A7 6 b.enc) (A7 7 b.enc) (A7 8 b.enc) (A7 9 b.enc) (A7 10 b.enc) (A7 11 b.enc) (A7 12 b.enc) (A7 13 b.enc) (A7 14 b.enc) (A7 15 b.enc) (A7 16 b.enc) (A7 17 b.enc) (A7 18 b.enc) (A7 19 b.enc)
def p9 (j:Nat) (a b:Tm):Option DV:=JD (run cfg) (.list 20 (L.map Tm.enc)) (.int .i64 kind) (.list 20 (L.map Tm.enc)) (.int .i64 (L.length:Int)) (.int .i64 (j:Int)) (A7 0 a.enc) (A7 1 a.enc) (A7 2 a.enc) (A7 3 a.enc) (A7 4 a.enc) (A7 5 a.enc) (A7 6 a.enc) (A7 7 a.enc) (A7 8 a.enc) (A7 9 a.enc) (A7 10 a.enc) (A7 11 a.enc) (A7 12 a.enc) (A7 13 a.enc) (A7 14 a.enc) (A7 15 a.enc) (A7 16 a.enc) (A7 17 a.enc) (A7 18 a.enc) (A7 19 a.enc) (A7 0 b.enc) (A7 1 b.enc) (A7 2 b.enc) (A7 3 b.enc) (A7 4 b.enc) (A7 5 b.enc) (A7 6 b.enc) (A7 7 b.enc) (A7 8 b.enc) (A7 9 b.enc) (A7 10 b.enc) (A7 11 b.enc) (A7 12 b.enc) (A7 13 b.enc) (A7 14 b.enc) (A7 15 b.enc) (A7 16 b.enc) (A7 17 b.enc) (A7 18 b.enc) (A7 19 b.enc)
def p15 (j:Nat) (a b x:Tm):Option DV:=LH (run cfg) (.list 20 (L.map Tm.enc)) (.int .i64 kind) (.list 20 (L.map Tm.enc)) (.int .i64 (L.length:Int)) (.int .i64 (j:Int)) (A7 0 a.enc) (A7 1 a.enc) (A7 2 a.enc) (A7 3 a.enc) (A7 4 a.enc) (A7 5 a.enc) (A7 6 a.enc) (A7 7 a.enc) (A7 8 a.enc) (A7 9 a.enc) (A7 10 a.enc) (A7 11 a.enc) (A7 12 a.enc) (A7 13 a.enc) (A7 14 a.enc) (A7 15 a.enc) (A7 16 a.enc) (A7 17 a.enc) (A7 18 a.enc) (A7 19 a.enc) (A7 0 b.enc) (A7 1 b.enc) (A7 2 b.enc) (A7 3 b.enc) (A7 4 b.enc) (A7 5 b.enc) (A7 6 b.enc) (A7 7 b.enc) (A7 8 b.enc) (A7 9 b.enc) (A7 10 b.enc) (A7 11 b.enc) (A7 12 b.enc) (A7 13 b.enc) (A7 14 b.enc) (A7 15 b.enc) (A7 16 b.enc) (A7 17 b.enc) (A7 18 b.enc) (A7 19 b.enc) x.enc
variable {kind:Int} {L:List Tm} {j:Nat} {a:Tm} {b:Tm}
theorem B8n {x:Tm} (hj:j<9223372036854775000) (rx:x.right=true) (hv:x.J2=true):p15 kind L j a b x=p9 kind L (j+1) x b:=by
 unfold p15;rw [QA];simp only [O7,Bp x rx,hv,F8,M8,C8,z9q,z0q,if_false,U9];rw [U2 (by omega) (by omega)]
 rfl
theorem B6o {x:Tm} {z:SR} (rx:x.right=true) (hv:x.J2=false) (hz:(run cfg).p Bz [x.enc]=some z.enc) (hg:z.good) :
 p15 kind L j a b x=z.fold (fun y=>p15 kind L j a b y) fun r=>some (.F3 [two a b,r.enc]):=by
 unfold p15;rw [QA];simp only [O7,Bp x rx,hv,F8,M8,C8,zrq,if_true,hz,SR.Yh,SR.Yi];cases z with
 | fin r =>
   simp only [F9,K9,D6,Hr,F8,C8,z6q,decide_eq_false_iff_not];rw [if_pos (show ¬ r.kind=0 from hg)];(try rw [rsE])
   rfl
 | ok y =>
   simp only [F9,K9,D6,Hr,show (Y6 0).kind=0 from rfl,F8,C8,decide_true,z9q,z0q,if_false]
   rfl
theorem A40 {kind:Int} {L:List Tm} {j:Nat} {a b:Tm} (hj:j<9223372036854775000):∀ (n:Nat) {x:Tm},VZ n x->p15 kind L j a b x=(Z4 n x).fold (fun y=>p15 kind L j a b y) fun r=>some (.F3 [two a b,r.enc])
 | 0,x,h=>h.elim
 | n+1,x,⟨rx,h⟩=>by
   rcases h with hv | ⟨hv,k16,stp,hy⟩
   ·rw [Pe hv];rfl
   ·rw [B6o rx hv (A9Z rx k16 stp) (qE x k16 rx stp),Ml hv]
    cases hs:x.DF with
    | fin r=>rfl
    | ok y=>exact A40 hj n (hy y hs)
theorem C0A:p9 kind L L.length a b=A41 kind L a b:=by
 unfold p9;rw [IV];simp only [H7,F8,C8,decide_eq_true_eq];rw [if_neg (by omega)]
 rfl
theorem C0z (hl:j<L.length) (hj:j<9223372036854775000) (hb:L[j].b.kind=5):p9 kind L j a b=p9 kind L (j+1) a b:=by
 unfold p9;rw [IV];simp only [H7,F8,C8,decide_eq_true_eq];rw [if_pos (by omega),I8 hl]
 simp only [F8,bq,hb,decide_true,C8,if_true,U9];rw [U2 (by omega) (by omega)]
 rfl
theorem C11 (hl:j<L.length) (hb:L[j].b.kind≠5) (hk:L[j].a.kind≠kind\/L[j].b.kind≠kind):p9 kind L j a b=some (.F3 [two a b,A_.enc]):=by
 unfold p9;rw [IV];simp only [H7,F8,C8,decide_eq_true_eq];rw [if_pos (by omega),I8 hl]
 simp only [F8,bq,an,bn,hb,decide_false,C8,H5,z0q,if_false,z6q,decide_eq_false_iff_not]
 by_cases h1:L[j].a.kind=kind
 ·rw [if_neg (fun h=>h h1),if_pos (hk.resolve_left fun h=>h h1),A0L]
  rfl
 ·rw [if_pos h1,A0L]
  rfl
theorem C10 (hl:j<L.length) (hb:L[j].b.kind≠5) (ka:L[j].a.kind=kind) (kb:L[j].b.kind=kind) (ha:0=1/\L[j].a.kind=8\/0<L[j].a.kids.length) (Ef:0=1/\L[j].b.kind=8\/0<L[j].b.kids.length) :
 p9 kind L j a b=p15 kind L j a b (I4 L[j] L[j].neg (partT L[j].a 0) (partT L[j].b 0) a):=by
 have h5:¬ kind=5:=fun h=>hb (kb.trans h)
 unfold p9;rw [IV];simp only [H7,F8,C8,decide_eq_true_eq];rw [if_pos (by omega),I8 hl]
 simp only [F8,bq,an,bn,decide_false,C8,H5,z0q,if_false,ka,kb,h5,decide_true,z9q,nK,tmB,O7];rw [ui (ha.imp (fun h=>⟨h.2,h.1⟩) id),ui (Ef.imp (fun h=>⟨h.2,h.1⟩) id)]
 simp only [F8,MR,F9,D6];rfl
theorem A5U {Tq:Ty->Prop} {Q:Tm->Prop} (C:CQ Tq Q) (hp:∀ y,Tq y->(y.kind=8/\0=1\/0<y.kids.length)->Tq (partT y 0)) {kind:Int} (hk:kind=7\/kind=8) {L:List Tm} (hL:L.length<9223372036854775000) (hc:∀ c∈L,c.right=true/\c.kind=16/\Tq c.a/\Tq c.b):∀ (n j:Nat) (a b:Tm),j+n=L.length->Q a->a.J2=true ->
 ∃ d,C9 40 d=true/\p9 kind L j a b=(BL kind 0 (L.drop j) a).fold (fun x=>A41 kind L x b) fun r=>some (.F3 [d,r.enc])
 | 0,j,a,b,hj,hq,hv=>by
   have e:j=L.length:=by omega
   subst e;refine ⟨two a b,rfl, ?_⟩;rw [C0A,zpq];rfl
 | n+1,j,a,b,hj,hq,hv=>by
   have hl:j<L.length:=by omega
   obtain ⟨rc,kc,ta,tb⟩:=hc _ (z1q hl);obtain ⟨ra,rb,l0,l1⟩:=Tm.Bd rc kc;rw [z2q hl,BL]
   by_cases b5:L[j].b.kind=5
   ·rw [if_pos b5,C0z hl (by omega) b5]
    exact A5U C hp hk hL hc n (j+1) a b (by omega) hq hv
   rw [if_neg b5]
   by_cases hn:L[j].a.kind≠kind\/L[j].b.kind≠kind
   ·rw [if_pos hn,C11 hl b5 hn]
    exact ⟨two a b,rfl,rfl⟩
   rw [if_neg hn];have ka:L[j].a.kind=kind:=Classical.byContradiction fun h=>hn (.inl h)
   have kb:L[j].b.kind=kind:=Classical.byContradiction fun h=>hn (.inr h)
   have la:=Us ra (ka ▸ hk) 0 (by decide)
   have lb:=Us rb (kb ▸ hk) 0 (by decide)
   obtain ⟨st,dn⟩:=iR C (c:=L[j]) (q:=L[j].neg) l0 l1 (hp _ ta (la.imp (fun h=>⟨h.2,h.1⟩) id)) (hp _ tb (lb.imp (fun h=>⟨h.2,h.1⟩) id)) hq hv
   rw [C10 hl b5 ka kb la lb,A40 (by omega) 4 st]
   cases hs:Z4 4 (I4 L[j] L[j].neg (partT L[j].a 0) (partT L[j].b 0) a) with
   | fin r=>exact ⟨two a b,rfl,rfl⟩
   | ok y =>
     rw [hs] at dn
     show ∃ d,C9 40 d=true/\p15 kind L j a b y=_
     rw [B8n (by omega) (C.r _ dn.2) dn.1]
     exact A5U C hp hk hL hc n (j+1) y b (by omega) dn.2 dn.1
variable (kind:Int) (L:List Tm)
def mh (j:Nat) (a b:Tm):Option DV:=IK (run cfg) (.list 20 (L.map Tm.enc)) (.int .i64 kind) (.list 20 (L.map Tm.enc)) (.int .i64 (L.length:Int)) (.int .i64 (j:Int)) (A7 0 a.enc) (A7 1 a.enc) (A7 2 a.enc) (A7 3 a.enc) (A7 4 a.enc) (A7 5 a.enc) (A7 6 a.enc) (A7 7 a.enc) (A7 8 a.enc) (A7 9 a.enc) (A7 10 a.enc) (A7 11 a.enc) (A7 12 a.enc) (A7 13 a.enc) (A7 14 a.enc) (A7 15 a.enc) (A7 16 a.enc) (A7 17 a.enc) (A7 18 a.enc) (A7 19 a.enc) (A7 0 b.enc) (A7 1 b.enc) (A7 2 b.enc) (A7 3 b.enc) (A7 4 b.enc) (A7 5 b.enc) (A7 6 b.enc) (A7 7 b.enc) (A7 8 b.enc) (A7 9 b.enc) (A7 10 b.enc) (A7 11 b.enc) (A7 12 b.enc) (A7 13 b.enc) (A7 14 b.enc) (A7 15 b.enc) (A7 16 b.enc) (A7 17 b.enc) (A7 18 b.enc) (A7 19 b.enc)
def pM (j:Nat) (a b x:Tm):Option DV:=Jr (run cfg) (.list 20 (L.map Tm.enc)) (.int .i64 kind) (.list 20 (L.map Tm.enc)) (.int .i64 (L.length:Int)) (.int .i64 (j:Int)) (A7 0 a.enc) (A7 1 a.enc) (A7 2 a.enc) (A7 3 a.enc) (A7 4 a.enc) (A7 5 a.enc) (A7 6 a.enc) (A7 7 a.enc) (A7 8 a.enc) (A7 9 a.enc) (A7 10 a.enc) (A7 11 a.enc) (A7 12 a.enc) (A7 13 a.enc) (A7 14 a.enc) (A7 15 a.enc) (A7 16 a.enc) (A7 17 a.enc) (A7 18 a.enc) (A7 19 a.enc) (A7 0 b.enc) (A7 1 b.enc) (A7 2 b.enc) (A7 3 b.enc) (A7 4 b.enc) (A7 5 b.enc) (A7 6 b.enc) (A7 7 b.enc) (A7 8 b.enc) (A7 9 b.enc) (A7 10 b.enc) (A7 11 b.enc) (A7 12 b.enc) (A7 13 b.enc) (A7 14 b.enc) (A7 15 b.enc) (A7 16 b.enc) (A7 17 b.enc) (A7 18 b.enc) (A7 19 b.enc) x.enc
variable {kind:Int} {L:List Tm}
theorem B6p {x:Tm} (hj:j<9223372036854775000) (rx:x.right=true) (hv:x.J2=true):pM kind L j a b x=mh kind L (j+1) a x:=by
 unfold pM;rw [Nu];simp only [O7,Bp x rx,hv,F8,M8,C8,z9q,z0q,if_false,U9];rw [U2 (by omega) (by omega)]
 rfl
theorem B4D {x:Tm} {z:SR} (rx:x.right=true) (hv:x.J2=false) (hz:(run cfg).p Bz [x.enc]=some z.enc) (hg:z.good) :
 pM kind L j a b x=z.fold (fun y=>pM kind L j a b y) fun r=>some (.F3 [two a b,r.enc]):=by
 unfold pM;rw [Nu];simp only [O7,Bp x rx,hv,F8,M8,C8,zrq,if_true,hz,SR.Yh,SR.Yi];cases z with
 | fin r =>
   simp only [F9,K9,D6,Hr,F8,C8,z6q,decide_eq_false_iff_not];rw [if_pos (show ¬ r.kind=0 from hg)];(try rw [rsE])
   rfl
 | ok y =>
   simp only [F9,K9,D6,Hr,show (Y6 0).kind=0 from rfl,F8,C8,decide_true,z9q,z0q,if_false]
   rfl
theorem A2A {kind:Int} {L:List Tm} {j:Nat} {a b:Tm} (hj:j<9223372036854775000):∀ (n:Nat) {x:Tm},VZ n x->pM kind L j a b x=(Z4 n x).fold (fun y=>pM kind L j a b y) fun r=>some (.F3 [two a b,r.enc])
 | 0,x,h=>h.elim
 | n+1,x,⟨rx,h⟩=>by
   rcases h with hv | ⟨hv,k16,stp,hy⟩
   ·rw [Pe hv];rfl
   ·rw [B4D rx hv (A9Z rx k16 stp) (qE x k16 rx stp),Ml hv]
    cases hs:x.DF with
    | fin r=>rfl
    | ok y=>exact A2A hj n (hy y hs)
theorem B8q:mh kind L L.length a b=some (.F3 [two a b,(Y6 0).enc]):=by
 unfold mh;rw [Gs];simp only [H7,F8,C8,decide_eq_true_eq];rw [if_neg (by omega)]
 rw [Yv,BM];rfl
theorem B8p (hl:j<L.length) (hj:j<9223372036854775000) (hb:L[j].b.kind=5):mh kind L j a b=mh kind L (j+1) a b:=by
 unfold mh;rw [Gs];simp only [H7,F8,C8,decide_eq_true_eq];rw [if_pos (by omega),I8 hl]
 simp only [F8,bq,hb,decide_true,C8,if_true,U9];rw [U2 (by omega) (by omega)]
 rfl
theorem C0C (hl:j<L.length) (hb:L[j].b.kind≠5) (hk:L[j].a.kind≠kind\/L[j].b.kind≠kind):mh kind L j a b=some (.F3 [two a b,A_.enc]):=by
 unfold mh;rw [Gs];simp only [H7,F8,C8,decide_eq_true_eq];rw [if_pos (by omega),I8 hl]
 simp only [F8,bq,an,bn,hb,decide_false,C8,H5,z0q,if_false,z6q,decide_eq_false_iff_not]
 by_cases h1:L[j].a.kind=kind
 ·rw [if_neg (fun h=>h h1),if_pos (hk.resolve_left fun h=>h h1),A0L]
  rfl
 ·rw [if_pos h1,A0L]
  rfl
theorem C0B (hl:j<L.length) (hb:L[j].b.kind≠5) (ka:L[j].a.kind=kind) (kb:L[j].b.kind=kind) (ha:1=1/\L[j].a.kind=8\/1<L[j].a.kids.length) (Ef:1=1/\L[j].b.kind=8\/1<L[j].b.kids.length) :
 mh kind L j a b=pM kind L j a b (I4 L[j] L[j].neg (partT L[j].a 1) (partT L[j].b 1) b):=by
 have h5:¬ kind=5:=fun h=>hb (kb.trans h)
 unfold mh;rw [Gs];simp only [H7,F8,C8,decide_eq_true_eq];rw [if_pos (by omega),I8 hl]
 simp only [F8,bq,an,bn,decide_false,C8,H5,z0q,if_false,ka,kb,h5,decide_true,z9q,nK,tmB,O7];rw [uj (ha.imp (fun h=>⟨h.2,h.1⟩) id),uj (Ef.imp (fun h=>⟨h.2,h.1⟩) id)]
 simp only [F8,MR,F9,D6];rfl
theorem A26 {Tq:Ty->Prop} {Q:Tm->Prop} (C:CQ Tq Q) (hp:∀ y,Tq y->(y.kind=8/\1=1\/1<y.kids.length)->Tq (partT y 1)) {kind:Int} (hk:kind=7\/kind=8) {L:List Tm} (hL:L.length<9223372036854775000) (hc:∀ c∈L,c.right=true/\c.kind=16/\Tq c.a/\Tq c.b):∀ (n j:Nat) (a b:Tm),j+n=L.length->Q b->b.J2=true ->
 ∃ d,C9 40 d=true/\mh kind L j a b=(BL kind 1 (L.drop j) b).fold (fun x=>some (.F3 [two a x,(Y6 0).enc])) fun r=>some (.F3 [d,r.enc])
 | 0,j,a,b,hj,hq,hv=>by
   have e:j=L.length:=by omega
   subst e;refine ⟨two a b,rfl, ?_⟩;rw [B8q,zpq];rfl
 | n+1,j,a,b,hj,hq,hv=>by
   have hl:j<L.length:=by omega
   obtain ⟨rc,kc,ta,tb⟩:=hc _ (z1q hl);obtain ⟨ra,rb,l0,l1⟩:=Tm.Bd rc kc;rw [z2q hl,BL]
   by_cases b5:L[j].b.kind=5
   ·rw [if_pos b5,B8p hl (by omega) b5]
    exact A26 C hp hk hL hc n (j+1) a b (by omega) hq hv
   rw [if_neg b5]
   by_cases hn:L[j].a.kind≠kind\/L[j].b.kind≠kind
   ·rw [if_pos hn,C0C hl b5 hn]
    exact ⟨two a b,rfl,rfl⟩
   rw [if_neg hn];have ka:L[j].a.kind=kind:=Classical.byContradiction fun h=>hn (.inl h)
   have kb:L[j].b.kind=kind:=Classical.byContradiction fun h=>hn (.inr h)
   have la:=Us ra (ka ▸ hk) 1 (by decide)
   have lb:=Us rb (kb ▸ hk) 1 (by decide)
   obtain ⟨st,dn⟩:=iR C (c:=L[j]) (q:=L[j].neg) l0 l1 (hp _ ta (la.imp (fun h=>⟨h.2,h.1⟩) id)) (hp _ tb (lb.imp (fun h=>⟨h.2,h.1⟩) id)) hq hv
   rw [C0B hl b5 ka kb la lb,A2A (by omega) 4 st]
   cases hs:Z4 4 (I4 L[j] L[j].neg (partT L[j].a 1) (partT L[j].b 1) b) with
   | fin r=>exact ⟨two a b,rfl,rfl⟩
   | ok y =>
     rw [hs] at dn
     show ∃ d,C9 40 d=true/\pM kind L j a b y=_
     rw [B6p (by omega) (C.r _ dn.2) dn.1]
     exact A26 C hp hk hL hc n (j+1) a y (by omega) dn.2 dn.1
end
end Go.Su

/-
 The calculus: a value's parts; the document's casts, settling, parts.
-/
namespace Go.Su
theorem B8o (kind:Int) (L:List Tm) (a b:Tm):A41 kind L a b=mh kind L 0 a b:=by
 unfold A41 mh;rw [Yu];simp only [K5,z3q,F8];rfl
section
variable {Tq:Ty->Prop} {Q:Tm->Prop} (C:CQ Tq Q)
include C
theorem Uv {i:Nat} (hi:i<2) (hp:∀ y,Tq y->(y.kind=8/\i=1\/i<y.kids.length)->Tq (partT y i)) {kind:Int} (hk:kind=7\/kind=8):∀ (L:List Tm),(∀ c∈L,c.right=true/\c.kind=16/\Tq c.a/\Tq c.b)->∀ w,Q w->w.J2=true->Done Q (BL kind i L w)
 | [],_,w,hq,hv=>⟨hv,hq⟩
 | c::L,hc,w,hq,hv=>by
   obtain ⟨rc,kc,ta,tb⟩:=hc c (zFq ..);obtain ⟨ra,rb,l0,l1⟩:=Tm.Bd rc kc;have ht:∀ c∈L,c.right=true/\c.kind=16/\Tq c.a/\Tq c.b:=fun d hd=>hc d (zWq _ hd)
   rw [BL]
   by_cases b5:c.b.kind=5
   ·rw [if_pos b5];exact Uv hi hp hk L ht w hq hv
   rw [if_neg b5]
   by_cases hn:c.a.kind≠kind\/c.b.kind≠kind
   ·rw [if_pos hn];show (6:Int)≠0;omega
   rw [if_neg hn];have ka:c.a.kind=kind:=Classical.byContradiction fun h=>hn (.inl h)
   have kb:c.b.kind=kind:=Classical.byContradiction fun h=>hn (.inr h)
   have la:=Us ra (ka ▸ hk) i hi;have lb:=Us rb (kb ▸ hk) i hi;obtain ⟨st,dn⟩:=iR C (c:=c) (q:=c.neg) l0 l1 (hp _ ta (la.imp (fun h=>⟨h.2,h.1⟩) id)) (hp _ tb (lb.imp (fun h=>⟨h.2,h.1⟩) id)) hq hv
   cases hs:Z4 4 (I4 c c.neg (partT c.a i) (partT c.b i) w) with
   | fin r=>rw [hs] at dn;exact dn
   | ok y =>
     rw [hs] at dn;exact Uv hi hp hk L ht y dn.2 dn.1
def C1i (Q:Tm->Prop) (x:PR):Prop:=match x with | .ok a b=>(a.J2=true/\Q a)/\b.J2=true/\Q b | .fin r=>r.kind≠0
variable {L:List Tm} {x:Tm}
theorem Wz (hp:∀ y i,i<2->Tq y->(y.kind=8/\i=1\/i<y.kids.length)->Tq (partT y i)) (hc:∀ c∈L,c.right=true/\c.kind=16/\Tq c.a/\Tq c.b) (q0:Q (x.kd 0)) (v0:(x.kd 0).J2=true) (q1:Q (x.kd 1)) (v1:(x.kd 1).J2=true):C1i Q (AA L x):=by
 have hk:(if x.kind=8 then (8:Int) else 7)=7\/(if x.kind=8 then (8:Int) else 7)=8:=by split <;> simp
 have d0:=Uv C (i:=0) (by omega) (fun y=>hp y 0 (by omega)) hk L hc _ q0 v0
 have d1:=Uv C (i:=1) (by omega) (fun y=>hp y 1 (by omega)) hk L hc _ q1 v1
 unfold AA;cases h0:BL (if x.kind=8 then 8 else 7) 0 L (x.kd 0) with
 | fin r=>rw [h0] at d0;exact d0
 | ok a =>
   rw [h0] at d0;simp only;cases h1:BL (if x.kind=8 then 8 else 7) 1 L (x.kd 1) with
   | fin r=>rw [h1] at d1;exact d1
   | ok b=>rw [h1] at d1;exact ⟨d0,d1⟩
theorem uk (hp:∀ y i,i<2->Tq y->(y.kind=8/\i=1\/i<y.kids.length)->Tq (partT y i)) (hL:L.length<9223372036854775000) (hc:∀ c∈L,c.right=true/\c.kind=16/\Tq c.a/\Tq c.b) (l2:x.kids.length=2) (q0:Q (x.kd 0)) (v0:(x.kd 0).J2=true) (q1:Q (x.kd 1)) (v1:(x.kd 1).J2=true) :
 ∃ d,C9 40 d=true/\(run cfg).p Nh [.list 20 (L.map Tm.enc),x.enc]=some (match AA L x with | .ok a b => .F3 [two a b,(Y6 0).enc] | .fin r => .F3 [d,r.enc]):=by
 have hk:(if x.kind=8 then (8:Int) else 7)=7\/(if x.kind=8 then (8:Int) else 7)=8:=by split <;> simp
 have dn:=Uv C (i:=0) (by omega) (fun y=>hp y 0 (by omega)) hk L hc _ q0 v0
 obtain ⟨d0,e0,h0⟩:=A5U C (fun y=>hp y 0 (by omega)) hk hL hc L.length 0 (x.kd 0) (x.kd 1) (by omega) q0 v0
 have st:(run cfg).p Nh [.list 20 (L.map Tm.enc),x.enc]=p9 (if x.kind=8 then 8 else 7) L 0 (x.kd 0) (x.kd 1):=by
  rw [lY,rD];simp only [F9,D6,x0 (show 0<x.kids.length by omega),x1 (show 1<x.kids.length by omega),F8,kq,C8,decide_eq_true_eq]
  unfold p9
  by_cases k8:x.kind=8
  ·rw [if_pos k8,if_pos k8,Rn]
   simp only [K5,z3q,F8];rfl
  ·rw [if_neg k8,if_neg k8,Rn]
   simp only [K5,z3q,F8];rfl
 rw [st,h0,zcq];unfold AA;cases hf:BL (if x.kind=8 then 8 else 7) 0 L (x.kd 0) with
 | fin r=>exact ⟨d0,e0,rfl⟩
 | ok a =>
   rw [hf] at dn;obtain ⟨d1,e1,h1⟩:=A26 C (fun y=>hp y 1 (by omega)) hk hL hc L.length 0 a (x.kd 1) (by omega) q1 v1
   refine ⟨d1,e1, ?_⟩
   show A41 _ L a (x.kd 1)=_
   rw [B8o,h1,zcq];cases hf1:BL (if x.kind=8 then 8 else 7) 1 L (x.kd 1) with
   | fin r=>rfl
   | ok b=>rfl
end
variable (n:Nat)
noncomputable def A5D (t:Tm):DV := .int .i64 (match Lc n t.kids with | some i=>(i:Int) | none => -1)
theorem A5E (t:Tm):Z6 (run cfg) (.int .i64 (n:Int)) (.int .i64 (n:Int)) t.enc=some (.int .i64 (-1)):=by
 rw [Vv];simp only [H7,F8,C8,decide_eq_true_eq];rw [if_neg (by omega)]
variable {n:Nat} {t:Tm}
theorem A8u {i:Nat} (hi:i<n) (h9:i<100) (hl:i<t.kids.length) (rk:(t.kd i).right=true):Z6 (run cfg) (.int .i64 (n:Int)) (.int .i64 (i:Int)) t.enc=if (t.kd i).J2=true then Z6 (run cfg) (.int .i64 (n:Int)) (.int .i64 ((i+1:Nat):Int)) t.enc else some (.int .i64 (i:Int)):=by
 rw [Vv];simp only [H7,F8,C8,decide_eq_true_eq];rw [if_pos (by omega),xI hl]
 simp only [F8,O7,Pg _ rk,M8,C8,U9,z6q];rw [U2 (by omega) (by omega)]
 cases (t.kd i).J2 <;> rfl
theorem B7T (hn:n<=2) (rt:t.right=true) (hl:n<=t.kids.length):Z6 (run cfg) (.int .i64 (n:Int)) (.int .i64 0) t.enc=some (A5D n t):=by
 unfold A5D;have h:n=0\/n=1\/n=2:=by omega
 rcases h with rfl | rfl | rfl
 ·exact A5E 0 t
 ·have g:=A8u (n:=1) (i:=0) (t:=t) (by omega) (by omega) (by omega) (Tm.AL rt (by omega))
  have e:=A5E 1 t;rw [B12];refine g.trans ?_
  split
  ·exact e
  ·rfl
 ·have g:=A8u (n:=2) (i:=0) (t:=t) (by omega) (by omega) (by omega) (Tm.AL rt (by omega))
  have g1:=A8u (n:=2) (i:=1) (t:=t) (by omega) (by omega) (by omega) (Tm.AL rt (by omega))
  have e:=A5E 2 t;rw [B68];refine g.trans ?_
  split
  ·refine g1.trans ?_
   split
   ·exact e
   ·rfl
  ·rfl
theorem B1q (k:Int):Y8 k<=2:=by
 unfold Y8
 split
 ·omega
 split <;> omega
theorem Jk (rt:t.right=true):Y8 t.kind<=t.kids.length:=by
 unfold Y8
 split
 ·rename_i k
  rw [Tm.Eh rt (by omega)]
  exact zgq _
 split
 ·rename_i k
  by_cases k11:t.kind=11
  ·rw [Tm.Eh rt (by omega)];omega
  by_cases k13:t.kind=13
  ·rw [Tm.A84 rt k13];omega
  by_cases k14:t.kind=14
  ·rw [Tm.B2w rt k14];omega
  ·rw [Tm.Cr rt (by omega)];omega
 ·omega
theorem qC (rt:t.right=true):(run cfg).p vJ [t.enc]=some (A5D (Y8 t.kind) t):=by
 have ml:=Jk rt;have D:=B7T (n:=Y8 t.kind) (B1q _) rt ml;refine (A2c _).trans ?_;rw [A4q];simp only [F9,D6,kq,F8,C8,decide_eq_true_eq];rw [<- D];unfold Y8
 by_cases k6:t.kind=6
 ·rw [if_pos k6,if_pos (.inl k6)];rfl
 rw [if_neg k6]
 by_cases k8:t.kind=8
 ·rw [if_pos k8,if_pos (.inr (.inl k8))];rfl
 rw [if_neg k8]
 by_cases k10:t.kind=10
 ·rw [if_pos k10,if_pos (.inr (.inr (.inl k10)))];rfl
 rw [if_neg k10]
 by_cases k15:t.kind=15
 ·rw [if_pos k15,if_pos (.inr (.inr (.inr k15)))];rfl
 rw [if_neg k15,if_neg (show ¬ (t.kind=6\/t.kind=8\/t.kind=10\/t.kind=15) by omega)]
 by_cases k11:t.kind=11
 ·rw [if_pos k11,if_pos (.inl k11)];rfl
 rw [if_neg k11]
 by_cases k13:t.kind=13
 ·rw [if_pos k13,if_pos (.inr (.inl k13))];rfl
 rw [if_neg k13]
 by_cases k14:t.kind=14
 ·rw [if_pos k14,if_pos (.inr (.inr (.inl k14)))];rfl
 rw [if_neg k14]
 by_cases k16:t.kind=16
 ·rw [if_pos k16,if_pos (.inr (.inr (.inr k16)))];rfl
 ·rw [if_neg k16,if_neg (by omega)];rfl
theorem C3r (t:Tm) (n:Nat) (y:Tm):DV.agg [A7 0 t.enc,A7 1 t.enc,A7 2 t.enc,A7 3 t.enc,A7 4 t.enc,A7 5 t.enc,A7 6 t.enc,A7 7 t.enc,A7 8 t.enc,A7 9 t.enc,A7 10 t.enc,A7 11 t.enc,A7 12 t.enc,A7 13 t.enc,A7 14 t.enc,A7 15 t.enc,A7 16 t.enc,A7 17 t.enc,A7 18 t.enc, .list 20 ((t.kids.map Tm.enc).set n y.enc)]=(t.Y7 n y).enc:=by
 have e:(t.kids.map Tm.enc).set n y.enc=(t.kids.set n y).map Tm.enc:=by rw [zRq]
 rw [e,Tm.H8 (t.Y7 n y),Tm.H8 t];rfl
theorem A66 {i:Nat} (rt:t.right=true) (hd:Lc (Y8 t.kind) t.kids=some i) (hl:i<t.kids.length) (hk:t.kids.length<=lim) {x:SR} (hg:x.good) (hx:(run cfg).p EU [(t.kd i).enc]=some x.enc) :
 (run cfg).p EU [t.enc]=some (x.bind fun y => .ok (t.Y7 i y)).enc:=by
 refine (UY _).trans ?_;rw [Ws];simp only [F9,D6,O7,qC rt,F8];unfold A5D;rw [hd];simp only [IR,F8,C8,decide_eq_true_eq];rw [if_pos (by omega),xI hl]
 simp only [F8,O7,hx,SR.Yh,SR.Yi];cases x with
 | fin r =>
   simp only [F9,K9,D6,Hr,F8,C8,z6q,decide_eq_false_iff_not];rw [if_pos (show ¬ r.kind=0 from hg)];(try rw [rsE]);(try rw [Z8])
   rfl
 | ok y =>
   simp only [F9,K9,D6,Hr,show (Y6 0).kind=0 from rfl,F8,C8,decide_true,z9q,z0q,if_false,O7]
   have ap:Jz 20 (.list 20 []) (A7 19 t.enc)=some ([],t.kids.map Tm.enc):=by
    rw [Tm.Cs];unfold Jz;simp only;rw [if_pos ⟨⟨trivial,trivial⟩,by simpa using hk,by rw [z3q];omega⟩]
   rw [ap];simp only [F8,ybq,z3q,zyq,XN hl];have os:Iz (20,[],t.kids.map Tm.enc) i y.enc=some (.opn 20 [] ((t.kids.map Tm.enc).set i y.enc)):=by
    unfold Iz;rw [if_pos ⟨zLq _,by simpa using hl⟩]
    rfl
   rw [os];have so:∀ o p q,GU [D8.opn o p q] 0=some (o,p,q):=fun _ _ _=>rfl
   simp only [F8,so];have cl:FQ (20,[],(t.kids.map Tm.enc).set i y.enc) 20 t.kids.length=some (.list 20 ((t.kids.map Tm.enc).set i y.enc)):=by
    unfold FQ;rw [if_pos ⟨rfl,by simp,by omega⟩]
    rfl
   rw [cl];simp only [F8,C3r,rsE];rfl
theorem A5b (rt:t.right=true) (k:t.kind=16) (hv:(t.kd 0).J2=true):(run cfg).p EU [t.enc]=some (V7 t (t.kd 0)).enc:=by
 have l1:=Tm.Cr rt (.inr k);refine (UY _).trans ?_;rw [Ws];simp only [F9,D6,O7,qC rt,F8];unfold A5D;rw [show Y8 t.kind=1 by rw [k];rfl,B12,if_pos hv]
 simp only [IR,F8,C8,decide_eq_true_eq,kq];rw [if_neg (by decide),if_neg (by omega),if_neg (by omega),Vw]
 simp only [kq,F8,C8,decide_eq_true_eq];rw [if_neg (by omega),if_neg (by omega),if_neg (by omega),if_neg (by omega),if_pos k,x0 (by omega)]
 simp only [F8,O7,ul rt k (Tm.AL rt (show 0<t.kids.length by omega)),SR.Hg]
theorem B4V (rt:t.right=true) (k:t.kind=16) (h:Stp t):(run cfg).p EU [t.enc]=some t.DF.enc:=by
 have l1:=Tm.Cr rt (.inr k);rcases h with h | ⟨h1,h2,h3,h4⟩
 ·rw [A5b rt k h,Tm.Gf,Tm.NW l1,if_pos (by simpa using h)]
 ·have l2:=Tm.Cr h3 (.inr h2)
  have e2:(t.kd 0).DF=V7 (t.kd 0) ((t.kd 0).kd 0):=by rw [Tm.Gf,Tm.NW l2,if_pos (by simpa using h4)]
  have e:t.DF=(V7 (t.kd 0) ((t.kd 0).kd 0)).bind fun x => .ok (t.Y7 0 x):=by rw [<- e2,Tm.Gf,Tm.NW l1,if_neg (by simp [h1])];rfl
  rw [e];exact A66 (i:=0) rt (by rw [show Y8 t.kind=1 by rw [k];rfl,B12,if_neg (by simp [h1])]) (by omega) (by rw [l1];decide) (Wo _ _) (A5b h3 h2 h4)
noncomputable def s1 (x:Tm):Option DV:=NF (run cfg) x.enc
variable {x:Tm}
theorem C0S (rx:x.right=true) (hv:x.J2=true):s1 x=some (SR.ok x).enc:=by
 unfold s1;rw [Rx];simp only [O7,Pg x rx,hv,F8,M8,C8,z9q,z0q,if_false,BM];rfl
theorem B8I {z:SR} (rx:x.right=true) (hv:x.J2=false) (hz:(run cfg).p EU [x.enc]=some z.enc) (hg:z.good):s1 x=z.fold s1 fun r=>some (SR.fin r).enc:=by
 unfold s1;rw [Rx];simp only [O7,Pg x rx,hv,F8,M8,C8,zrq,if_true,hz,SR.Yh,SR.Yi];cases z with
 | fin r =>
   simp only [F9,K9,D6,Hr,F8,C8,z6q,decide_eq_false_iff_not];rw [if_pos (show ¬ r.kind=0 from hg)];(try simp only [O7]);(try rw [rsE])
   rfl
 | ok y =>
   simp only [F9,K9,D6,Hr,show (Y6 0).kind=0 from rfl,F8,C8,decide_true,z9q,z0q,if_false]
   rfl
theorem A67:∀ (n:Nat) {x:Tm},VZ n x->s1 x=some (Z4 n x).enc
 | 0,x,h=>h.elim
 | n+1,x,⟨rx,h⟩=>by
   rcases h with hv | ⟨hv,k16,stp,hy⟩
   ·rw [Pe hv,C0S rx hv]
   ·rw [B8I rx hv (B4V rx k16 stp) (qE x k16 rx stp),Ml hv]
    cases hs:x.DF with
    | fin r=>rfl
    | ok y=>exact A67 n (hy y hs)
theorem A7M (h:VZ n x):(run cfg).p aT [x.enc]=some (Z4 n x).enc:=by
 refine (mG _).trans ?_;rw [rf];simp only [F9,D6];exact A67 n h
end Go.Su

/-
 The calculus: the document's parts; a pattern held against a value.
-/
namespace Go.Su
variable (kind:Int)
noncomputable def q6 (L out:List Tm) (i:Nat) (x:Tm):Option DV:=KM (run cfg) (.list 20 (L.map Tm.enc)) (.list 20 (out.map Tm.enc)) (.int .i64 kind) (.int .i64 (i:Int)) x.enc
noncomputable def Il (L out:List Tm) (i j:Nat) (x w:Tm):Option DV:=JG (run cfg) (.list 20 (L.map Tm.enc)) (.list 20 (out.map Tm.enc)) (.int .i64 kind) (.int .i64 (i:Int)) (.int .i64 (j:Int)) x.enc w.enc
theorem B8v {kind:Int} {L out:List Tm} {i:Nat} {x w:Tm} (hi:i<2) (ho:out.length<4):Il kind L out i L.length x w=q6 kind L (out++[w]) (i+1) x:=by
 unfold Il q6;rw [IW];simp only [K5,z3q,F8,H7,C8,decide_eq_true_eq,O7];rw [if_neg (by omega),GZ (by unfold lim;omega)]
 simp only [F8,U9];rw [U2 (by omega) (by omega)]
 rfl
section
variable {kind:Int} {L out:List Tm} {i j:Nat} {x w:Tm} (hl:j<L.length) (hj:j<9223372036854775000)
include hl
theorem B8u (hj:j<9223372036854775000) (hb:L[j].b.kind=5):Il kind L out i j x w=Il kind L out i (j+1) x w:=by
 unfold Il;rw [IW];simp only [K5,z3q,F8,H7,C8,decide_eq_true_eq];rw [if_pos (by omega),I8 hl]
 simp only [F8,bq,hb,decide_true,C8,if_true,U9];rw [U2 (by omega) (by omega)]
 rfl
theorem C0E (hb:L[j].b.kind≠5) (hk:L[j].a.kind≠kind\/L[j].b.kind≠kind):Il kind L out i j x w=some (.F3 [.list 20 [],A_.enc]):=by
 unfold Il;rw [IW];simp only [K5,z3q,F8,H7,C8,decide_eq_true_eq];rw [if_pos (by omega),I8 hl]
 simp only [F8,bq,an,bn,hb,decide_false,C8,H5,z0q,if_false,z6q,decide_eq_false_iff_not,Ht,K9,D6,rsE]
 by_cases h1:L[j].a.kind=kind
 ·rw [if_neg (fun h=>h h1),if_pos (hk.resolve_left fun h=>h h1)]
 ·rw [if_pos h1]
theorem C0D (hj:j<9223372036854775000) (hi:i=0\/i=1) (hb:L[j].b.kind≠5) (ka:L[j].a.kind=kind) (kb:L[j].b.kind=kind) (ha:i=1/\L[j].a.kind=8\/i<L[j].a.kids.length) (Ef:i=1/\L[j].b.kind=8\/i<L[j].b.kids.length) {n:Nat} (st:VZ n (I4 L[j] L[j].neg (partT L[j].a i) (partT L[j].b i) w)) (gd:(Z4 n (I4 L[j] L[j].neg (partT L[j].a i) (partT L[j].b i) w)).good) :
 Il kind L out i j x w=(Z4 n (I4 L[j] L[j].neg (partT L[j].a i) (partT L[j].b i) w)).fold (fun y=>Il kind L out i (j+1) x y) fun r=>some (.F3 [.list 20 [],r.enc]):=by
 have h5:¬ kind=5:=fun h=>hb (kb.trans h)
 unfold Il;rw [IW];simp only [K5,z3q,F8,H7,C8,decide_eq_true_eq];rw [if_pos (by omega),I8 hl]
 simp only [F8,bq,an,bn,decide_false,C8,H5,z0q,if_false,ka,kb,h5,decide_true,z9q,nK,tmB,O7,A2J hi (ha.imp (fun h=>⟨h.2,h.1⟩) id),A2J hi (Ef.imp (fun h=>⟨h.2,h.1⟩) id),Qq,A7M st,SR.Yh,SR.Yi]
 cases hs:Z4 n (I4 L[j] L[j].neg (partT L[j].a i) (partT L[j].b i) w) with
 | fin r =>
   rw [hs] at gd;simp only [F9,K9,D6,Hr,F8,C8,z6q,decide_eq_false_iff_not];rw [if_pos (show ¬ r.kind=0 from gd)];(try rw [rsE])
   rfl
 | ok y =>
   simp only [F9,K9,D6,Hr,show (Y6 0).kind=0 from rfl,F8,C8,decide_true,z9q,z0q,if_false,U9]
   rw [U2 (by omega) (by omega)]
   rfl
end
theorem Done.good {Q:Tm->Prop} {x:SR} (h:Done Q x):x.good:=by
 cases x with
 | ok y=>trivial
 | fin r=>exact h
section
variable {Tq:Ty->Prop} {Q:Tm->Prop} (C:CQ Tq Q)
include C
theorem pO {i:Nat} (hi:i=0\/i=1) (hp:∀ y,Tq y->(y.kind=8/\i=1\/i<y.kids.length)->Tq (partT y i)) {kind:Int} (hk:kind=7\/kind=8) {L:List Tm} (hL:L.length<9223372036854775000) (hc:∀ c∈L,c.right=true/\c.kind=16/\Tq c.a/\Tq c.b) {out:List Tm} (ho:out.length<4) (x:Tm):∀ (n j:Nat) (w:Tm),j+n=L.length->Q w->w.J2=true ->
 Il kind L out i j x w=(BL kind i (L.drop j) w).fold (fun y=>q6 kind L (out++[y]) (i+1) x) fun r=>some (.F3 [.list 20 [],r.enc])
 | 0,j,w,hj,hq,hv=>by
   have e:j=L.length:=by omega
   subst e;rw [B8v (by omega) ho,zpq]
   rfl
 | n+1,j,w,hj,hq,hv=>by
   have hl:j<L.length:=by omega
   obtain ⟨rc,kc,ta,tb⟩:=hc _ (z1q hl);obtain ⟨ra,rb,l0,l1⟩:=Tm.Bd rc kc;rw [z2q hl,BL]
   by_cases b5:L[j].b.kind=5
   ·rw [if_pos b5,B8u hl (by omega) b5]
    exact pO hi hp hk hL hc ho x n (j+1) w (by omega) hq hv
   rw [if_neg b5]
   by_cases hn:L[j].a.kind≠kind\/L[j].b.kind≠kind
   ·rw [if_pos hn,C0E hl b5 hn]
    rfl
   rw [if_neg hn];have ka:L[j].a.kind=kind:=Classical.byContradiction fun h=>hn (.inl h)
   have kb:L[j].b.kind=kind:=Classical.byContradiction fun h=>hn (.inr h)
   have la:=Us ra (ka ▸ hk) i (by omega)
   have lb:=Us rb (kb ▸ hk) i (by omega)
   obtain ⟨st,dn⟩:=iR C (c:=L[j]) (q:=L[j].neg) l0 l1 (hp _ ta (la.imp (fun h=>⟨h.2,h.1⟩) id)) (hp _ tb (lb.imp (fun h=>⟨h.2,h.1⟩) id)) hq hv
   rw [C0D hl (by omega) hi b5 ka kb la lb st dn.good]
   cases hs:Z4 4 (I4 L[j] L[j].neg (partT L[j].a i) (partT L[j].b i) w) with
   | fin r=>rfl
   | ok y =>
     rw [hs] at dn;exact pO hi hp hk hL hc ho x n (j+1) y (by omega) dn.2 dn.1
theorem A9X (hp:∀ y i,i<2->Tq y->(y.kind=8/\i=1\/i<y.kids.length)->Tq (partT y i)) {L:List Tm} (hL:L.length<9223372036854775000) (hc:∀ c∈L,c.right=true/\c.kind=16/\Tq c.a/\Tq c.b) {x:Tm} (l2:x.kids.length=2) (q0:Q (x.kd 0)) (v0:(x.kd 0).J2=true) (q1:Q (x.kd 1)) (v1:(x.kd 1).J2=true) :
 (run cfg).p Wd [x.enc, .list 20 (L.map Tm.enc)]=some (match AA L x with | .ok a b => .F3 [.list 20 [a.enc,b.enc],(Y6 0).enc] | .fin r => .F3 [.list 20 [],r.enc]):=by
 have hk:(if x.kind=8 then (8:Int) else 7)=7\/(if x.kind=8 then (8:Int) else 7)=8:=by split <;> simp
 have st:(run cfg).p Wd [x.enc, .list 20 (L.map Tm.enc)]=q6 (if x.kind=8 then 8 else 7) L [] 0 x:=by
  rw [tX,xJ];simp only [F9,D6,F8,kq,C8,decide_eq_true_eq];unfold q6
  by_cases k8:x.kind=8
  ·rw [if_pos k8,if_pos k8];rfl
  ·rw [if_neg k8,if_neg k8];rfl
 have g0:q6 (if x.kind=8 then 8 else 7) L [] 0 x=Il (if x.kind=8 then 8 else 7) L [] 0 0 x (x.kd 0):=by
  unfold q6 Il;rw [NR];simp only [H7,F8,C8,decide_eq_true_eq];rw [if_pos (by decide),xI (show 0<x.kids.length by omega)]
  rfl
 have g1:∀ a,q6 (if x.kind=8 then 8 else 7) L [a] 1 x=Il (if x.kind=8 then 8 else 7) L [a] 1 0 x (x.kd 1):=by
  intro a;unfold q6 Il;rw [NR];simp only [H7,F8,C8,decide_eq_true_eq];rw [if_pos (by decide),xI (show 1<x.kids.length by omega)]
  rfl
 have g2:∀ a b,q6 (if x.kind=8 then 8 else 7) L [a,b] 2 x=some (.F3 [.list 20 [a.enc,b.enc],(Y6 0).enc]):=by
  intro a b;unfold q6;rw [NR];simp only [H7,F8,C8,decide_eq_true_eq];rw [if_neg (by decide),BM]
  rfl
 rw [st,g0,pO C (.inl rfl) (fun y=>hp y 0 (by omega)) hk hL hc (by simp) x L.length 0 (x.kd 0) (by omega) q0 v0,zcq]
 unfold AA;cases hf:BL (if x.kind=8 then 8 else 7) 0 L (x.kd 0) with
 | fin r=>rfl
 | ok a =>
   show q6 _ L [a] 1 x=_
   rw [g1,pO C (.inr rfl) (fun y=>hp y 1 (by omega)) hk hL hc (by simp) x L.length 0 (x.kd 1) (by omega) q1 v1,zcq]
   cases hf1:BL (if x.kind=8 then 8 else 7) 1 L (x.kd 1) with
   | fin r=>rfl
   | ok b=>exact g2 a b
end
end Go.Su

/-
 The calculus: a pattern held against a value: the program's, the document's.
-/
namespace Go.Su
structure CQ2 (Tq:Ty->Prop) (Q:Tm->Prop):Prop extends CQ Tq Q where
 k2:∀ t,Q t->t.kind=6\/t.kind=8->Q (t.kd 0)/\Q (t.kd 1)
 ty2:∀ t,Q t->t.kind=16->Tq t.a/\Tq t.b
 pt:∀ y i,i<2->Tq y->(y.kind=8/\i=1\/i<y.kids.length)->Tq (partT y i)
theorem CQ2.chain {Tq:Ty->Prop} {Q:Tm->Prop} (C:CQ2 Tq Q) (v:Tm):Q v->v.J2=true->(∀ c∈v.chain,c.right=true/\c.kind=16/\Tq c.a/\Tq c.b)/\Q v.inner/\v.inner.J2=true/\v.inner.kind≠16:=by
 induction v using Tm.ind with
 | h v ih =>
   intro hq hv
   by_cases k:v.kind=16
   ·have rv:=C.r _ hq
    have l1:=Tm.Cr rv (.inr k);obtain ⟨c1,c2⟩:=Zd k l1;obtain ⟨i1,i2,i3,i4⟩:=ih _ (Tm.R9 (show 0<v.kids.length by omega)) (C.kid _ hq k) (B1H hv k l1)
    rw [c1,c2];refine ⟨fun c hc => ?_,i2,i3,i4⟩
    rcases zCq.1 hc with hc | hc
    ·exact i1 c hc
    ·rw [zGq.1 hc];exact ⟨rv,k,C.ty2 _ hq k⟩
   ·rw [(Mj k).1,(Mj k).2]
    exact ⟨by simp,hq,hv,k⟩
def AF (c:EY):DV := .agg [.str c.1,A7 0 c.2.enc,A7 1 c.2.enc,A7 2 c.2.enc,A7 3 c.2.enc,A7 4 c.2.enc,A7 5 c.2.enc,A7 6 c.2.enc,A7 7 c.2.enc,A7 8 c.2.enc,A7 9 c.2.enc,A7 10 c.2.enc,A7 11 c.2.enc,A7 12 c.2.enc,A7 13 c.2.enc,A7 14 c.2.enc,A7 15 c.2.enc,A7 16 c.2.enc,A7 17 c.2.enc,A7 18 c.2.enc,A7 19 c.2.enc]
def FR.QK:FR->Bool
 | .ok _=>true
 | _=>false
def FR.res:FR->AC
 | .fin r=>r
 | _=>Y6 0
def FR.cells:FR->List EY
 | .ok m=>m
 | _=>[]
def FR.good (x:FR):Prop:=match x with | .fin r=>r.kind≠0 | _=>True
variable (p:D5)
theorem pq (k:Int):A8 .eql (A7 0 p.enc) (.int .i64 k)=some (.bool (decide (p.kind=k))):=by rw [D5.Y3,M0]
theorem A5V:DV.agg [A7 0 p.enc,A7 1 p.enc,A7 2 p.enc,A7 3 p.enc,A7 4 p.enc,A7 5 p.enc,A7 6 p.enc]=p.enc:=by rw [D5.H8];rfl
theorem pI0 {p:D5} (h:0<p.kids.length):F5 7 (A7 6 p.enc) (.int .i64 0)=some (p.kd 0).enc:=by rw [D5.Hd,show (0:Int)=((0:Nat):Int) from rfl,I8 h,D5.Xk h]
theorem pI1 {p:D5} (h:1<p.kids.length):F5 7 (A7 6 p.enc) (.int .i64 1)=some (p.kd 1).enc:=by rw [D5.Hd,show (1:Int)=((1:Nat):Int) from rfl,I8 h,D5.Xk h]
variable (v:Tm)
theorem nq (p:D5):A8 .eql (A7 5 v.enc) (A7 4 p.enc)=some (.bool (decide (v.n=p.n))):=by rw [D5.KD,Tm.Bf,M0]
theorem nq' (p:D5):A8 .eql (A7 4 p.enc) (A7 5 v.enc)=some (.bool (decide (p.n=v.n))):=by rw [D5.KD,Tm.Bf,M0]
theorem sq (p:D5):A8 .eql (A7 6 v.enc) (A7 5 p.enc)=some (.bool (decide (v.s=p.s))):=by rw [D5.Bf,Tm.Hd,JJ]
theorem sq' (p:D5):A8 .eql (A7 5 p.enc) (A7 6 v.enc)=some (.bool (decide (p.s=v.s))):=by rw [D5.Bf,Tm.Hd,JJ]
theorem B66:I6 (A7 3 p.enc)=true:=by rw [D5.CU];rfl
theorem B1h:DV.agg [A7 3 p.enc,A7 0 v.enc,A7 1 v.enc,A7 2 v.enc,A7 3 v.enc,A7 4 v.enc,A7 5 v.enc,A7 6 v.enc,A7 7 v.enc,A7 8 v.enc,A7 9 v.enc,A7 10 v.enc,A7 11 v.enc,A7 12 v.enc,A7 13 v.enc,A7 14 v.enc,A7 15 v.enc,A7 16 v.enc,A7 17 v.enc,A7 18 v.enc,A7 19 v.enc]=AF (p.name,v):=by rw [D5.CU];rfl
variable {p:D5}
theorem D5.A9j (h:p.pat=true):1<=p.kind/\p.kind<=9:=by
 rw [D5.eT,zdq] at h;have:=h.1;unfold D5.one at this
 repeat' split at this
 all_goals first | omega | simp at this
theorem D5.Gb (h:p.pat=true) (hk:p.kind=7\/p.kind=9):p.kids.length=2:=by
 rw [D5.eT,zdq] at h;have:=h.1;unfold D5.one at this;rcases hk with hk | hk <;> simp [hk] at this <;> exact this.1.1.1
theorem D5.Ej {k:D5} (h:p.pat=true) (hk:k∈p.kids):k.pat=true:=by
 rw [D5.eT,zdq,zUq] at h;exact h.2 k hk
theorem D5.Iw {i:Nat} (h:i<p.kids.length):p.kd i∈p.kids:=by
 unfold D5.kd;rw [zfq,z4q h];exact z1q h
theorem FR.A5y {a:FR} {b:List EY->FR} {m:List EY} (h:a.also b = .ok m):∃ l,a = .ok l/\b l = .ok m:=by
 cases a with
 | ok l=>exact ⟨l,rfl,h⟩
 | _=>cases h
theorem FR.A9k {a:FR} {l m:List EY} (h:a.pre l = .ok m):∃ q,a = .ok q/\m=l++q:=by
 cases a with
 | ok q=>simp only [FR.pre,FR.ok.injEq] at h;exact ⟨q,rfl,h.symm⟩
 | _=>cases h
theorem D5.SS {Tq:Ty->Prop} {Q:Tm->Prop} (C:CQ2 Tq Q) (p:D5):p.pat=true->∀ (v:Tm),Q v->v.J2=true->(∀ m,p.meets v = .ok m->(∀ c∈m,Q c.2/\c.2.J2=true)/\m.length<=p.size)/\(p.meets v).good:=by
 induction p using D5.ind with
 | h p ih =>
   intro hp v hq hv;have hs:=p.Dz;obtain ⟨ch,qi,vi,ki⟩:=C.chain v hq hv;rw [D5.WJ p v (D5.Gb hp)]
   by_cases k1:p.kind=1
   ·rw [if_pos k1];exact ⟨fun m h=>by cases h;simp,trivial⟩
   rw [if_neg k1]
   by_cases k2:p.kind=2
   ·rw [if_pos k2];exact ⟨fun m h=>by cases h;exact ⟨by simpa using ⟨hq,hv⟩,by simp;omega⟩,trivial⟩
   rw [if_neg k2]
   by_cases k3:v.kind=16/\v.b.kind=5\/v.inner.kind≠p.kind-1
   ·rw [if_pos k3];exact ⟨fun m h=>by (cases h),trivial⟩
   rw [if_neg k3]
   by_cases hk:p.kind=7\/p.kind=9
   ·rw [if_pos hk]
    have l2:=D5.Gb hp hk;have vk:v.inner.kind=p.kind-1:=Classical.byContradiction fun h=>k3 (.inr h)
    have i2:v.inner.kind=6\/v.inner.kind=8:=by omega
    have ri:=C.r _ qi;have il:=Tm.Eh ri (by omega)
    obtain ⟨q0,q1⟩:=C.k2 _ qi i2;have Na:(v.inner.kd 0).J2=true/\(v.inner.kd 1).J2=true:=by
     rw [Tm.Jj,if_neg (by omega),if_pos i2,all2 il,zdq] at vi
     exact vi
    have pd:=Wz C.toCQ C.pt ch q0 Na.1 q1 Na.2;cases Pt:AA v.chain v.inner with
    | fin r=>rw [Pt] at pd;exact ⟨fun m h=>by (cases h),pd⟩
    | ok a b =>
      rw [Pt] at pd;obtain ⟨⟨va,qa⟩,vb,qb⟩:=pd;have m0:=D5.Iw (show 0<p.kids.length by omega)
      have m1:=D5.Iw (show 1<p.kids.length by omega)
      obtain ⟨x0,x1⟩:=ih _ m0 (D5.Ej hp m0) a qa va;obtain ⟨y0,y1⟩:=ih _ m1 (D5.Ej hp m1) b qb vb;have Aa:=p.size_eq;have S_:p.kids=[p.kd 0,p.kd 1]:=by
       match hk:p.kids,l2 with
       | [a,b],_=>simp [D5.kd,hk]
      rw [S_] at Aa;simp only [zlq,zAq,zsq,yaq] at Aa;refine ⟨fun m h => ?_, ?_⟩
      ·obtain ⟨l,h1,h2⟩:=FR.A5y h
       obtain ⟨q,h3,rfl⟩:=FR.A9k h2;obtain ⟨a1,a2⟩:=x0 l h1;obtain ⟨b1,b2⟩:=y0 q h3;refine ⟨fun c hc => ?_,by rw [ztq];omega⟩
       rcases zCq.1 hc with hc | hc
       ·exact a1 c hc
       ·exact b1 c hc
      ·show (((p.kd 0).meets a).also fun l=>((p.kd 1).meets b).pre l).good
       cases hm:(p.kd 0).meets a with
       | no=>trivial
       | fin r=>rw [hm] at x1;exact x1
       | ok l =>
         show (((p.kd 1).meets b).pre l).good
         cases Ps:(p.kd 1).meets b with
         | no=>trivial
         | fin r=>rw [Ps] at y1;exact y1
         | ok m=>trivial
   ·rw [if_neg hk]
    split
    ·exact ⟨fun m h=>by (cases h),trivial⟩
    ·exact ⟨fun m h=>by cases h;simp,trivial⟩
def rcs (r:AC):List DV:=[A7 0 r.enc,A7 1 r.enc,A7 2 r.enc,A7 3 r.enc,A7 4 r.enc,A7 5 r.enc,A7 6 r.enc,A7 7 r.enc,A7 8 r.enc,A7 9 r.enc,A7 10 r.enc,A7 11 r.enc,A7 12 r.enc,A7 13 r.enc,A7 14 r.enc]
structure TB (sg:List D8) (i:Nat) (l:List EY) (r:AC):Prop where
 h:∃ cs,M5 sg i=some cs/\cs.length=16/\FP cs 0=some (.list 21 (l.map AF))/\CV 1 15 cs=some (rcs r)
def YJ (i:Nat) (l:List EY) (o:FR) (q:Option (List DV × List D8)):Prop :=
 ∃ (sg':List D8) (l':List EY),q=some ([.bool o.QK],sg')/\TB sg' i l' o.res/\(o.QK=true->l'=l++o.cells)
theorem B42 {cs:List (DV × Meta)} {x:DV × Meta} (hl:cs.length=16):CV 1 15 (cs.set 0 x)=CV 1 15 cs:=by
 match cs,hl with
 | _::_,_=>rfl
theorem B05 {sg:List D8} {i:Nat} {l:List EY} (p:D5) (v:Tm) (h:TB sg i l (Y6 0)) (hl:l.length<lim) :
 YJ i l (.ok [(p.name,v)]) (ob (M5 sg i) fun c3=>ob (FP c3 0) fun d4=>ob (Be 21 d4 (.list 21 [AF (p.name,v)])) fun d5=>ob (M5 (sg.set i (D8.box (c3.set 0 (d4, .val)))) i) fun c6=>ob (c6[0]?) fun u7=>some ([.bool true],((sg.set i (D8.box (c3.set 0 (d4, .val)))).set i (D8.box (c6.set 0 (d5, .own)))))):=by
 obtain ⟨cs,h1,h2,h3,h4⟩:=h.h;have hi:=WR h1;have h0:0<cs.length:=by omega
 simp only [h1,h3,F8,GZ (e:=AF) (sz:=21) (l:=l) (x:=(p.name,v)) hl,TD hi,List.set_set];rw [zTq h0];simp only [F8];refine ⟨_,l++[(p.name,v)],rfl,⟨_,TD hi _,by simp [h2], ?_, ?_⟩,fun _=>rfl⟩
 ·rw [FP,zTq (by simpa using h0)]
 ·rw [B42 (by simp [h2])];exact h4
theorem C2a (a b:Tm):DV.agg [A7 0 (two a b),A7 1 (two a b),A7 2 (two a b),A7 3 (two a b),A7 4 (two a b),A7 5 (two a b),A7 6 (two a b),A7 7 (two a b),A7 8 (two a b),A7 9 (two a b),A7 10 (two a b),A7 11 (two a b),A7 12 (two a b),A7 13 (two a b),A7 14 (two a b),A7 15 (two a b),A7 16 (two a b),A7 17 (two a b),A7 18 (two a b),A7 19 (two a b)]=a.enc:=O7 a
theorem C2b (a b:Tm):DV.agg [A7 20 (two a b),A7 21 (two a b),A7 22 (two a b),A7 23 (two a b),A7 24 (two a b),A7 25 (two a b),A7 26 (two a b),A7 27 (two a b),A7 28 (two a b),A7 29 (two a b),A7 30 (two a b),A7 31 (two a b),A7 32 (two a b),A7 33 (two a b),A7 34 (two a b),A7 35 (two a b),A7 36 (two a b),A7 37 (two a b),A7 38 (two a b),A7 39 (two a b)]=b.enc:=O7 b
section
variable {Tq:Ty->Prop} {Q:Tm->Prop} (C:CQ2 Tq Q) {B:Nat} (hB:3 * B<=lim)
include C hB
theorem A2G (p:D5):p.pat=true->∀ (v:Tm),Q v->v.J2=true->Mx B v->∀ (l:List EY) (sg:List D8) (i:Nat),TB sg i l (Y6 0)->l.length+p.size<=lim ->
 YJ i l (p.meets v) ((run cfg).r BD [(.undef, .ptr i 0),(p.enc, .val),(v.enc, .val)] sg):=by
 induction p using D5.ind with
 | h p ih =>
   intro hp v hq hv bd l sg i hb hl;have pk:=D5.A9j hp;have hs:=p.Dz;obtain ⟨ch,qi,vi,ki⟩:=C.chain v hq hv;have bl:=bd.l;rw [Sv,UB,D5.WJ p v (D5.Gb hp)];simp only [PP,F9,D6,pq,kq,bq,F8,C8,H5,decide_eq_true_eq,O7,B66,B1h,uh v (C.r _ hq) (by omega) sg,BI,BJ]
   have yes:YJ i l (.ok []) (some ([.bool true],sg)):=⟨sg,l,rfl,hb,fun _=>by simp [FR.cells]⟩
   have no:YJ i l .no (some ([.bool false],sg)):=⟨sg,l,rfl,hb,fun h=>by cases h⟩
   by_cases k1:p.kind=1
   ·rw [if_pos k1,if_pos k1];exact yes
   rw [if_neg k1,if_neg k1]
   by_cases k2:p.kind=2
   ·rw [if_pos k2,if_pos k2]
    exact B05 p v hb (by omega)
   rw [if_neg k2,if_neg k2];have main:YJ i l (if v.inner.kind≠p.kind-1 then .no else if p.kind=7\/p.kind=9 then (match AA v.chain v.inner with | .fin r => .fin r | .ok a b=>((p.kd 0).meets a).also fun l=>((p.kd 1).meets b).pre l) else if (p.kind=3\/p.kind=4)/\v.inner.n≠p.n\/p.kind=5/\v.inner.s≠p.s then .no else .ok [])
    (Ff (run cfg) i (.list 20 (v.chain.map Tm.enc)) p.enc v.inner.enc sg):=by
    rw [Pk];simp only [pq,kq,kn,nq,sq,F8,C8,H5,decide_eq_true_eq,z6q,decide_eq_false_iff_not];have leaf:∀ (b:Bool) (c:Prop) [Decidable c],(b=true ↔ ¬ c)->YJ i l (if c then .no else .ok []) (some ([.bool b],sg)):=by
     intro b c _ h
     by_cases hc:c
     ·have:b=false:=by cases b;rfl;exact absurd hc (h.1 rfl)
      rw [if_pos hc,this];exact no
     ·rw [if_neg hc,h.2 hc];exact yes
    have skip:v.inner.kind≠p.kind-1->∀ {X:FR},YJ i l (if v.inner.kind≠p.kind-1 then .no else X) (some ([.bool false],sg)):=fun h {X}=>by rw [if_pos h];exact no
    have go:v.inner.kind=p.kind-1->∀ {X Y:FR},YJ i l (if v.inner.kind≠p.kind-1 then Y else X)=YJ i l X:=fun h {X Y}=>by rw [if_neg (fun g=>g h)]
    by_cases k3:p.kind=3
    ·rw [if_pos k3]
     by_cases vk:v.inner.kind=2
     ·rw [if_pos vk,go (by omega),if_neg (by omega)]
      exact leaf _ _ (by simp [k3])
     ·rw [if_neg vk];exact skip (by omega)
    rw [if_neg k3]
    by_cases k4:p.kind=4
    ·rw [if_pos k4]
     by_cases vk:v.inner.kind=3
     ·rw [if_pos vk,go (by omega),if_neg (by omega)]
      exact leaf _ _ (by simp [k4])
     ·rw [if_neg vk];exact skip (by omega)
    rw [if_neg k4]
    by_cases k5:p.kind=5
    ·rw [if_pos k5]
     by_cases vk:v.inner.kind=4
     ·rw [if_pos vk,go (by omega),if_neg (by omega)]
      exact leaf _ _ (by simp [k5])
     ·rw [if_neg vk];exact skip (by omega)
    rw [if_neg k5]
    by_cases k6:p.kind=6
    ·rw [if_pos k6]
     by_cases vk:v.inner.kind=5
     ·rw [go (by omega),if_neg (by omega)]
      exact leaf _ _ (by simp [k6,vk])
     ·rw [show decide (v.inner.kind=5)=false by simpa using vk];exact skip (by omega)
    rw [if_neg k6]
    by_cases k8:p.kind=8
    ·rw [if_pos k8]
     by_cases vk:v.inner.kind=7
     ·rw [go (by omega),if_neg (by omega)]
      exact leaf _ _ (by simp [k8,vk])
     ·rw [show decide (v.inner.kind=7)=false by simpa using vk];exact skip (by omega)
    rw [if_neg k8];have hk:p.kind=7\/p.kind=9:=by omega
    have l2:=D5.Gb hp hk
    by_cases vk:v.inner.kind=p.kind-1
    ·rw [go vk,if_pos hk]
     have i2:v.inner.kind=6\/v.inner.kind=8:=by omega
     have ri:=C.r _ qi;have il:=Tm.Eh ri (by omega)
     obtain ⟨q0,q1⟩:=C.k2 _ qi i2;have Na:(v.inner.kd 0).J2=true/\(v.inner.kd 1).J2=true:=by
      rw [Tm.Jj,if_neg (by omega),if_pos i2,all2 il,zdq] at vi
      exact vi
     obtain ⟨d,e1,e2⟩:=uk C.toCQ C.pt (L:=v.chain) (by unfold lim at hB;omega) ch il q0 Na.1 q1 Na.2
     have pd:=Wz C.toCQ C.pt ch q0 Na.1 q1 Na.2;have pg:∀ a b,AA v.chain v.inner = .ok a b->Mx B a/\Mx B b:=by
      intro a b Cy;have g0:=JW C.toCQ (i:=0) (fun y=>C.pt y 0 (by omega)) (kind:=if v.inner.kind=8 then 8 else 7) (fun y h k=>Us h (by rw [k];split <;> simp) 0 (by omega)) v.chain ch _ q0 Na.1
      have g1:=JW C.toCQ (i:=1) (fun y=>C.pt y 1 (by omega)) (kind:=if v.inner.kind=8 then 8 else 7) (fun y h k=>Us h (by rw [k];split <;> simp) 1 (by omega)) v.chain ch _ q1 Na.2
      unfold AA at Cy;cases h0:BL (if v.inner.kind=8 then 8 else 7) 0 v.chain (v.inner.kd 0) with
      | fin r=>rw [h0] at Cy;cases Cy
      | ok x =>
        rw [h0] at Cy g0;simp only at Cy;cases h1:BL (if v.inner.kind=8 then 8 else 7) 1 v.chain (v.inner.kd 1) with
        | fin r=>rw [h1] at Cy;cases Cy
        | ok y =>
          rw [h1] at Cy g1;cases Cy;exact ⟨bd.part (Tm.R9 (by omega)) (Tm.AL ri (by omega)) g0.2.2,bd.part (Tm.R9 (by omega)) (Tm.AL ri (by omega)) g1.2.2⟩
     have q23:YJ i l (match AA v.chain v.inner with | .fin r => .fin r | .ok a b=>((p.kd 0).meets a).also fun l=>((p.kd 1).meets b).pre l) (B_ (run cfg) i (.list 20 (v.chain.map Tm.enc)) p.enc v.inner.enc sg):=by
      rw [Pm];simp only [O7,e2,F8];cases Pt:AA v.chain v.inner with
      | fin r =>
        rw [Pt] at pd;obtain ⟨cs,h1,h2,h3,h4⟩:=hb.h;have hi:=WR h1;simp only [BI,BJ,F8,e1,K9,D6,Hr,C8,z6q,decide_eq_false_iff_not];rw [if_pos (show ¬ r.kind=0 from pd)]
        simp only [h1,F8]
        match cs,h2 with
        | [a0,a1,a2,a3,a4,a5,a6,a7,a8,a9,a10,a11,a12,a13,a14,a15],_ =>
          rw [if_pos (show 1+15<=[a0,a1,a2,a3,a4,a5,a6,a7,a8,a9,a10,a11,a12,a13,a14,a15].length from zgq 16)]
          exact ⟨_,l,rfl,⟨_,TD hi _,rfl,h3,rfl⟩,fun h=>by cases h⟩
      | ok a b =>
        rw [Pt] at pd;obtain ⟨⟨va,qa⟩,vb,qb⟩:=pd;obtain ⟨ba,bb⟩:=pg a b Pt;have m0:=D5.Iw (show 0<p.kids.length by omega)
        have m1:=D5.Iw (show 1<p.kids.length by omega)
        have z:(p.kd 0).size+(p.kd 1).size<p.size:=by
         have Aa:=p.size_eq;have S_:p.kids=[p.kd 0,p.kd 1]:=by
          match hk:p.kids,l2 with
          | [a,b],_=>simp [D5.kd,hk]
         rw [S_] at Aa;simp only [zlq,zAq,zsq,yaq] at Aa;omega
        simp only [BI,BJ,F8,B1G,K9,D6,Hr,show (Y6 0).kind=0 from rfl,C8,decide_true,z9q,z0q,if_false,pI0 (show 0<p.kids.length by omega),pI1 (show 1<p.kids.length by omega),A5V]
        obtain ⟨sg1,l1,f1,f2,f3⟩:=ih _ m0 (D5.Ej hp m0) a qa va ba l sg i hb (by omega)
        simp only [C2a a b,C2b a b];have ml:=(D5.SS C (p.kd 0) (D5.Ej hp m0) a qa va).1;rw [f1];simp only [F8,zjq,H5];cases hm:(p.kd 0).meets a with
        | no=>rw [hm] at f2;exact ⟨sg1,l1,rfl,f2,fun h=>by cases h⟩
        | fin r=>rw [hm] at f2;exact ⟨sg1,l1,rfl,f2,fun h=>by cases h⟩
        | ok m =>
          rw [hm] at f2 f3;have e3:=f3 rfl;have lm:=(ml m hm).2;obtain ⟨sg2,l2',g1,g2,g3⟩:=ih _ m1 (D5.Ej hp m1) b qb vb bb l1 sg1 i f2 (by rw [e3];simp only [FR.cells,ztq];omega)
          simp only [show (FR.ok m).QK=true from rfl,if_true]
          rw [g1];simp only [F8,zjq]
          show YJ i l (((p.kd 1).meets b).pre m) _
          cases Ps:(p.kd 1).meets b with
          | no=>rw [Ps] at g2;exact ⟨sg2,l2',rfl,g2,fun h=>by cases h⟩
          | fin r=>rw [Ps] at g2;exact ⟨sg2,l2',rfl,g2,fun h=>by cases h⟩
          | ok m' =>
            rw [Ps] at g2 g3;refine ⟨sg2,l2',rfl,g2,fun _ => ?_⟩
            rw [g3 rfl,e3];simp only [FR.cells,FR.pre,zvq]
     rcases hk with k7 | k9
     ·rw [if_pos k7,if_neg (fun h=>h (by omega)),if_neg (by omega)]
      exact q23
     ·rw [if_neg (by omega),if_pos k9,if_neg (fun h=>h (by omega))]
      exact q23
    ·refine (?_:YJ _ _ _ _)
     rcases hk with k7 | k9
     ·rw [if_pos k7,if_pos (show ¬ v.inner.kind=6 by omega)];exact skip vk
     ·rw [if_neg (show ¬ p.kind=7 by omega),if_pos k9,if_pos (show ¬ v.inner.kind=8 by omega)];exact skip vk
   have mg:∀ {X:FR} (Y:FR),v.kind=16/\v.b.kind=5->(if v.kind=16/\v.b.kind=5\/v.inner.kind≠p.kind-1 then FR.no else X)=FR.no:=fun Y h=>if_pos (.inl h)
   by_cases v16:v.kind=16
   ·rw [if_pos v16]
    by_cases b5:v.b.kind=5
    ·rw [if_pos b5,if_pos (show v.kind=16/\v.b.kind=5\/v.inner.kind≠p.kind-1 from .inl ⟨v16,b5⟩)]
     exact no
    ·rw [if_neg b5]
     by_cases vk:v.inner.kind≠p.kind-1
     ·rw [if_pos vk] at main
      rw [if_pos (show v.kind=16/\v.b.kind=5\/v.inner.kind≠p.kind-1 from .inr vk)]
      exact main
     ·rw [if_neg vk] at main
      rw [if_neg (show ¬ (v.kind=16/\v.b.kind=5\/v.inner.kind≠p.kind-1) from fun h=>h.elim (fun h=>b5 h.2) vk)]
      exact main
   ·rw [if_neg v16]
    by_cases vk:v.inner.kind≠p.kind-1
    ·rw [if_pos vk] at main
     rw [if_pos (show v.kind=16/\v.b.kind=5\/v.inner.kind≠p.kind-1 from .inr vk)]
     exact main
    ·rw [if_neg vk] at main
     rw [if_neg (show ¬ (v.kind=16/\v.b.kind=5\/v.inner.kind≠p.kind-1) from fun h=>h.elim (fun h=>v16 h.1) vk)]
     exact main
end
end Go.Su

/-
 The calculus: a pattern held against a value: the document's.
-/
namespace Go.Su
variable (X:DV) (L:List Tm)
noncomputable def f9 (p:D5) (x:Tm) (sg:List D8):Option (List DV × List D8):=Np (run cfg) X (.list 20 (L.map Tm.enc)) p.enc x.enc sg
noncomputable def f19 (p:D5) (x:Tm) (sg:List D8):Option (List DV × List D8):=RP (run cfg) X (.list 20 (L.map Tm.enc)) p.enc x.enc sg
def nu (l:List EY) (sg:List D8) (o:FR) (q:Option (List DV × List D8)):Prop :=
 ∃ X:DV,q=some ([X, .bool o.QK,o.res.enc],sg)/\(o.QK=true->X = .list 21 ((l++o.cells).map AF))
variable {p:D5} (x:Tm) (sg:List D8)
theorem C2D (h:p.kind=3):f9 X L p x sg=(if x.kind=2 then some ([X, .bool (decide (p.n=x.n)),(Y6 0).enc],sg) else some ([.list 21 [], .bool false,(Y6 0).enc],sg)):=by
 unfold f9;simp only [Ew,EH,EI,EJ,EK,EL,EM,EN,EO,pq,kq,nq',sq',F8,h,H5,C8,decide_eq_true_eq,Int.reduceEq,decide_false,decide_true,z0q,if_false,if_true,BM]
theorem C2E (h:p.kind=4):f9 X L p x sg=(if x.kind=3 then some ([X, .bool (decide (p.n=x.n)),(Y6 0).enc],sg) else some ([.list 21 [], .bool false,(Y6 0).enc],sg)):=by
 unfold f9;simp only [Ew,EH,EI,EJ,EK,EL,EM,EN,EO,pq,kq,nq',sq',F8,h,H5,C8,decide_eq_true_eq,Int.reduceEq,decide_false,decide_true,z0q,if_false,if_true,BM]
theorem C2F (h:p.kind=5):f9 X L p x sg=(if x.kind=4 then some ([X, .bool (decide (p.s=x.s)),(Y6 0).enc],sg) else some ([.list 21 [], .bool false,(Y6 0).enc],sg)):=by
 unfold f9;simp only [Ew,EH,EI,EJ,EK,EL,EM,EN,EO,pq,kq,nq',sq',F8,h,H5,C8,decide_eq_true_eq,Int.reduceEq,decide_false,decide_true,z0q,if_false,if_true,BM]
theorem C2G (h:p.kind=6):f9 X L p x sg=(if x.kind=5 then some ([X, .bool true,(Y6 0).enc],sg) else some ([.list 21 [], .bool false,(Y6 0).enc],sg)):=by
 unfold f9;simp only [Ew,EH,EI,EJ,EK,EL,EM,EN,EO,pq,kq,nq',sq',F8,h,H5,C8,decide_eq_true_eq,Int.reduceEq,decide_false,decide_true,z0q,if_false,if_true,BM]
theorem C2I (h:p.kind=8):f9 X L p x sg=(if x.kind=7 then some ([X, .bool true,(Y6 0).enc],sg) else some ([.list 21 [], .bool false,(Y6 0).enc],sg)):=by
 unfold f9;simp only [Ew,EH,EI,EJ,EK,EL,EM,EN,EO,pq,kq,nq',sq',F8,h,H5,C8,decide_eq_true_eq,Int.reduceEq,decide_false,decide_true,z0q,if_false,if_true,BM]
theorem C2H (h:p.kind=7):f9 X L p x sg=(if x.kind=6 then f19 X L p x sg else some ([.list 21 [], .bool false,(Y6 0).enc],sg)):=by
 unfold f9;simp only [Ew,EH,EI,EJ,EK,EL,EM,EN,EO,pq,kq,nq',sq',F8,h,H5,C8,decide_eq_true_eq,Int.reduceEq,decide_false,decide_true,z0q,if_false,if_true,BM];rfl
theorem C2J (h:p.kind=9):f9 X L p x sg=(if x.kind=8 then f19 X L p x sg else some ([.list 21 [], .bool false,(Y6 0).enc],sg)):=by
 unfold f9;simp only [Ew,EH,EI,EJ,EK,EL,EM,EN,EO,pq,kq,nq',sq',F8,h,H5,C8,decide_eq_true_eq,Int.reduceEq,decide_false,decide_true,z0q,if_false,if_true,BM];rfl
theorem C3w (a b:Tm):F5 20 (.list 20 [a.enc,b.enc]) (.int .i64 0)=some a.enc:=rfl
theorem C3x (a b:Tm):F5 20 (.list 20 [a.enc,b.enc]) (.int .i64 1)=some b.enc:=rfl
section
variable {Tq:Ty->Prop} {Q:Tm->Prop} (C:CQ2 Tq Q) {B:Nat} (hB:3 * B<=lim)
include C hB
theorem A2I (p:D5):p.pat=true->∀ (v:Tm),Q v->v.J2=true->Mx B v->∀ (l:List EY) (sg:List D8),l.length+p.size<=lim ->
 nu l sg (p.meets v) ((run cfg).r JC [(p.enc, .val),(v.enc, .val),(.list 21 (l.map AF), .own)] sg):=by
 induction p using D5.ind with
 | h p ih =>
   intro hp v hq hv bd l sg hl;have pk:=D5.A9j hp;have hs:=p.Dz;obtain ⟨ch,qi,vi,ki⟩:=C.chain v hq hv;have bl:=bd.l;have rv:=C.r _ hq;rw [yF,A1V,D5.WJ p v (D5.Gb hp)];simp only [PP,F9,D6,pq,F8,C8,H5,decide_eq_true_eq,O7,B66,B1h,A7L v rv (by omega) sg,BI,BJ,A0t,BM,zjq]
   have no:∀ {X:DV},nu l sg .no (some ([X, .bool false,(Y6 0).enc],sg)):=fun {X}=>⟨X,rfl,fun h=>by cases h⟩
   have yes:nu l sg (.ok []) (some ([.list 21 (l.map AF), .bool true,(Y6 0).enc],sg)):=⟨_,rfl,fun _=>by simp [FR.cells]⟩
   by_cases k1:p.kind=1
   ·rw [if_pos k1,if_pos k1];exact yes
   rw [if_neg k1,if_neg k1]
   by_cases k2:p.kind=2
   ·rw [if_pos k2,if_pos k2,GZ (e:=AF) (sz:=21) (l:=l) (x:=(p.name,v)) (by omega)]
    exact ⟨_,rfl,fun _=>rfl⟩
   rw [if_neg k2,if_neg k2];have main:nu l sg (if v.inner.kind≠p.kind-1 then .no else if p.kind=7\/p.kind=9 then (match AA v.chain v.inner with | .fin r => .fin r | .ok a b=>((p.kd 0).meets a).also fun l=>((p.kd 1).meets b).pre l) else if (p.kind=3\/p.kind=4)/\v.inner.n≠p.n\/p.kind=5/\v.inner.s≠p.s then .no else .ok [])
    (f9 (.list 21 (l.map AF)) v.chain p v.inner sg):=by
    have leaf:∀ (b:Bool) (c:Prop) [Decidable c],(b=true ↔ ¬ c)->nu l sg (if c then .no else .ok []) (some ([.list 21 (l.map AF), .bool b,(Y6 0).enc],sg)):=by
     intro b c _ h
     by_cases hc:c
     ·have:b=false:=by cases b;rfl;exact absurd hc (h.1 rfl)
      rw [if_pos hc,this];exact no
     ·rw [if_neg hc,h.2 hc];exact yes
    have skip:v.inner.kind≠p.kind-1->∀ {X:FR},nu l sg (if v.inner.kind≠p.kind-1 then .no else X) (some ([.list 21 [], .bool false,(Y6 0).enc],sg)):=fun h {X}=>by rw [if_pos h];exact no
    have go:v.inner.kind=p.kind-1->∀ {X Y:FR},nu l sg (if v.inner.kind≠p.kind-1 then Y else X)=nu l sg X:=fun h {X Y}=>by rw [if_neg (fun g=>g h)]
    by_cases k3:p.kind=3
    ·rw [C2D _ _ _ _ k3]
     by_cases vk:v.inner.kind=2
     ·rw [if_pos vk,go (by omega),if_neg (show ¬ (p.kind=7\/p.kind=9) by omega)]
      exact leaf _ _ (by simp [k3,eq_comm])
     ·rw [if_neg vk];exact skip (by omega)
    by_cases k4:p.kind=4
    ·rw [C2E _ _ _ _ k4]
     by_cases vk:v.inner.kind=3
     ·rw [if_pos vk,go (by omega),if_neg (show ¬ (p.kind=7\/p.kind=9) by omega)]
      exact leaf _ _ (by simp [k4,eq_comm])
     ·rw [if_neg vk];exact skip (by omega)
    by_cases k5:p.kind=5
    ·rw [C2F _ _ _ _ k5]
     by_cases vk:v.inner.kind=4
     ·rw [if_pos vk,go (by omega),if_neg (show ¬ (p.kind=7\/p.kind=9) by omega)]
      exact leaf _ _ (by simp [k5,eq_comm])
     ·rw [if_neg vk];exact skip (by omega)
    by_cases k6:p.kind=6
    ·rw [C2G _ _ _ _ k6]
     by_cases vk:v.inner.kind=5
     ·rw [if_pos vk,go (by omega),if_neg (show ¬ (p.kind=7\/p.kind=9) by omega)]
      exact leaf _ _ (by simp [k6])
     ·rw [if_neg vk];exact skip (by omega)
    by_cases k8:p.kind=8
    ·rw [C2I _ _ _ _ k8]
     by_cases vk:v.inner.kind=7
     ·rw [if_pos vk,go (by omega),if_neg (show ¬ (p.kind=7\/p.kind=9) by omega)]
      exact leaf _ _ (by simp [k8])
     ·rw [if_neg vk];exact skip (by omega)
    have hk:p.kind=7\/p.kind=9:=by omega
    have l2:=D5.Gb hp hk;have e9:f9 (.list 21 (l.map AF)) v.chain p v.inner sg=if v.inner.kind=p.kind-1 then f19 (.list 21 (l.map AF)) v.chain p v.inner sg else some ([.list 21 [], .bool false,(Y6 0).enc],sg):=by
     rcases hk with k7 | k9
     ·rw [C2H _ _ _ _ k7,k7];rfl
     ·rw [C2J _ _ _ _ k9,k9];rfl
    rw [e9]
    by_cases vk:v.inner.kind=p.kind-1
    ·rw [go vk,if_pos hk,if_pos vk]
     have i2:v.inner.kind=6\/v.inner.kind=8:=by omega
     have ri:=C.r _ qi;have il:=Tm.Eh ri (by omega)
     obtain ⟨q0,q1⟩:=C.k2 _ qi i2;have Na:(v.inner.kd 0).J2=true/\(v.inner.kd 1).J2=true:=by
      rw [Tm.Jj,if_neg (by omega),if_pos i2,all2 il,zdq] at vi
      exact vi
     have e1:=A9X C.toCQ C.pt (L:=v.chain) (by unfold lim at hB;omega) ch il q0 Na.1 q1 Na.2
     have pd:=Wz C.toCQ C.pt ch q0 Na.1 q1 Na.2;have pg:∀ a b,AA v.chain v.inner = .ok a b->Mx B a/\Mx B b:=by
      intro a b Cy;have g0:=JW C.toCQ (i:=0) (fun y=>C.pt y 0 (by omega)) (kind:=if v.inner.kind=8 then 8 else 7) (fun y h k=>Us h (by rw [k];split <;> simp) 0 (by omega)) v.chain ch _ q0 Na.1
      have g1:=JW C.toCQ (i:=1) (fun y=>C.pt y 1 (by omega)) (kind:=if v.inner.kind=8 then 8 else 7) (fun y h k=>Us h (by rw [k];split <;> simp) 1 (by omega)) v.chain ch _ q1 Na.2
      unfold AA at Cy;cases h0:BL (if v.inner.kind=8 then 8 else 7) 0 v.chain (v.inner.kd 0) with
      | fin r=>rw [h0] at Cy;cases Cy
      | ok x =>
        rw [h0] at Cy g0;simp only at Cy;cases h1:BL (if v.inner.kind=8 then 8 else 7) 1 v.chain (v.inner.kd 1) with
        | fin r=>rw [h1] at Cy;cases Cy
        | ok y =>
          rw [h1] at Cy g1;cases Cy;exact ⟨bd.part (Tm.R9 (by omega)) (Tm.AL ri (by omega)) g0.2.2,bd.part (Tm.R9 (by omega)) (Tm.AL ri (by omega)) g1.2.2⟩
     unfold f19;rw [lJ];simp only [O7,e1,F8];cases Pt:AA v.chain v.inner with
     | fin r =>
       rw [Pt] at pd;simp only [BI,BJ,F8,K9,D6,Hr,C8,z6q,decide_eq_false_iff_not];rw [if_pos (show ¬ r.kind=0 from pd)];(try rw [rsE])
       exact ⟨_,rfl,fun h=>by cases h⟩
     | ok a b =>
       rw [Pt] at pd;obtain ⟨⟨va,qa⟩,vb,qb⟩:=pd;obtain ⟨ba,bb⟩:=pg a b Pt;have m0:=D5.Iw (show 0<p.kids.length by omega)
       have m1:=D5.Iw (show 1<p.kids.length by omega)
       have z:(p.kd 0).size+(p.kd 1).size<p.size:=by
        have Aa:=p.size_eq;have S_:p.kids=[p.kd 0,p.kd 1]:=by
         match hk:p.kids,l2 with
         | [a,b],_=>simp [D5.kd,hk]
        rw [S_] at Aa;simp only [zlq,zAq,zsq,yaq] at Aa;omega
       simp only [BI,BJ,A0t,F8,K9,D6,Hr,show (Y6 0).kind=0 from rfl,C8,decide_true,z9q,z0q,if_false,pI0 (show 0<p.kids.length by omega),pI1 (show 1<p.kids.length by omega),A5V,C3w,C3x,O7]
       obtain ⟨Y,f1,f2⟩:=ih _ m0 (D5.Ej hp m0) a qa va ba l sg (by omega)
       have ml:=(D5.SS C (p.kd 0) (D5.Ej hp m0) a qa va).1;rw [f1];simp only [BI,BJ,A0t,F8,K9,D6,M8,C8];cases hm:(p.kd 0).meets a with
       | no=>exact ⟨_,rfl,fun h=>by cases h⟩
       | fin r=>exact ⟨_,rfl,fun h=>by cases h⟩
       | ok m =>
         rw [hm] at f2;have lm:=(ml m hm).2;obtain ⟨Y',g1,g2⟩:=ih _ m1 (D5.Ej hp m1) b qb vb bb (l++m) sg (by simp only [ztq];omega)
         rw [f2 rfl];simp only [show (FR.ok m).QK=true from rfl,z9q,z0q,if_false,FR.cells,g1,BI,BJ,A0t,F8,K9,D6,rsE]
         show nu l sg (((p.kd 1).meets b).pre m) _
         cases Ps:(p.kd 1).meets b with
         | no=>exact ⟨_,rfl,fun h=>by cases h⟩
         | fin r=>exact ⟨_,rfl,fun h=>by cases h⟩
         | ok m' =>
           rw [Ps] at g2;refine ⟨Y',rfl,fun _ => ?_⟩
           rw [g2 rfl];simp only [FR.cells,FR.pre,zvq]
    ·rw [if_neg vk];exact skip vk
   rw [show Np (run cfg) (.list 21 (l.map AF)) (.list 20 (v.chain.map Tm.enc)) p.enc v.inner.enc sg=f9 (.list 21 (l.map AF)) v.chain p v.inner sg from rfl]
   by_cases v16:v.kind=16
   ·have l1:=Tm.Cr rv (.inr v16)
    have c1:=(A5B v16 l1).1;have cl:v.chain.length=(v.kd 0).chain.length+1:=by rw [c1];simp
    have ix:F5 20 (.list 20 (v.chain.map Tm.enc)) (.int .i64 ((v.kd 0).chain.length:Int))=some v.enc:=by
     rw [I8 (by omega)]
     congr 2
     simp only [c1,List.getElem_concat_length]
    have lng:A8 .sub (.int .i64 ((v.chain.map Tm.enc).length:Int)) (.int .i64 1)=some (.int .i64 ((v.kd 0).chain.length:Int)):=by
     rw [IU,z3q,cl,U2 (by unfold lim at hB;omega) (by unfold lim at hB;omega)]
     congr 2
     omega
    simp only [K5,F8,X8,z3q,H5,C8,decide_eq_true_eq];rw [if_pos (show (0:Int)<(v.chain.length:Int) by omega)]
    rw [z3q] at lng;simp only [lng,F8,ix,bq,C8,decide_eq_true_eq]
    by_cases b5:v.b.kind=5
    ·rw [if_pos b5,if_pos (show v.kind=16/\v.b.kind=5\/v.inner.kind≠p.kind-1 from .inl ⟨v16,b5⟩)]
     exact no
    ·rw [if_neg b5]
     by_cases vk:v.inner.kind≠p.kind-1
     ·rw [if_pos vk] at main
      rw [if_pos (show v.kind=16/\v.b.kind=5\/v.inner.kind≠p.kind-1 from .inr vk)]
      exact main
     ·rw [if_neg vk] at main
      rw [if_neg (show ¬ (v.kind=16/\v.b.kind=5\/v.inner.kind≠p.kind-1) from fun h=>h.elim (fun h=>b5 h.2) vk)]
      exact main
   ·have c1:v.chain=[]:=(wO v16).1
    simp only [K5,F8,X8,z3q,H5,decide_eq_true_eq];rw [if_neg (show ¬ (0:Int)<(v.chain.length:Int) by rw [c1];simp)]
    by_cases vk:v.inner.kind≠p.kind-1
    ·rw [if_pos vk] at main
     rw [if_pos (show v.kind=16/\v.b.kind=5\/v.inner.kind≠p.kind-1 from .inr vk)]
     exact main
    ·rw [if_neg vk] at main
     rw [if_neg (show ¬ (v.kind=16/\v.b.kind=5\/v.inner.kind≠p.kind-1) from fun h=>h.elim (fun h=>v16 h.1) vk)]
     exact main
end
end Go.Su
