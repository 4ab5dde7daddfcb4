/-
  Parts of the proof, merged: TN17, TN18, TN19, TN20, TN21, TN22, TN23, W15, LInferLimits.
-/
import Derived.Test.YtfcklgngoefgmaaGreatQ4
import Derived.Test.YtfcklgngoefgmaaGreatQ5
import Derived.Test.YtfcklgngoefgmaaGreatQ6
set_option linter.unusedVariables false
set_option linter.unusedSimpArgs false
set_option linter.unusedSectionVars false
/-
 Inference in memory: matches, operators.
-/
open Bool renaming false_eq_true → z1q, not_true → zbq, not_false → ziq, and_eq_true → zwq, true_and → zEq
open List renaming getD_cons_zero → z0q, drop_eq_getElem_cons → z2q, getElem_mem → z3q, drop_of_length_le → z4q, length_nil → z5q, drop_zero → z6q, take_succ_eq_append_getElem → z7q, length_cons → z9q, length_drop → zaq, mem_cons_of_mem → zcq, mem_iff_getElem → zdq, take_of_length_le → zfq, mem_cons_self → zgq, map_cons → zhq, getElem?_append_left → zjq, length_append → zkq, map_append → zlq, sum_cons → zmq, mem_of_mem_drop → znq, not_mem_nil → zoq, mem_map_of_mem → zqq, set_set → zrq, mem_cons → zsq, getElem_tail → ztq, length_tail → zuq, getElem_zip → zvq, length_take → zxq, getElem_zipWith → zzq, getElem?_set_ne → zAq, length_map → zBq, length_zipWith → zCq, idxOf_append → zDq, map_nil → zFq, length_zip → zGq
open Nat renaming le_trans → z8q, lt_irrefl → zeq, le_refl → zpq, add_le_add_right → zyq
namespace Go.Su
set_option linter.defProp false
section
variable {b i t p j:Nat}{g:Bool}{R:Rec}{e:Ex}{A8:Nat}{l:List EN}
def KE.into{w:W}{sg K6:List E5}{S:E9}(h:BZ g b i t p j w sg)(A:Fa b i t p j)(k:Kp b i sg K6)(a:Y6 b i S K6):BZ g b i t p j { w with s:=S } K6:=⟨h.t.kp k a,h.d.kx A k.k3 rfl rfl rfl⟩
def B2b{w:W}{sg:List E5}(h:BZ g b i t p j w sg)(A:Fa b i t p j)(e:Nat)(B:GY):∃sg',C9.r R8 [(.undef,.ptr t 0),(iN e,.val),(B.D9,.val)] sg=some ([],sg')/\BZ g b i t p j (w.fails e B) sg'/\Kx [b,i,t] sg sg':=by obtain⟨s3,e3,a3,k3⟩:=bV h.t e B;have k4:Kx [b,i,t] sg s3:=k3.more (by intro x hx;simp only[zsq,zoq,or_false]at hx ⊢;omega);exact⟨s3,e3,⟨a3,h.d.kx A k4 (by unfold W.fails;split<;>rfl) (by unfold W.fails;split<;>rfl) (by unfold W.fails;split<;>rfl)⟩,k4⟩
def zk(B:GY):DV.agg [A9 0 B.D9,A9 1 B.D9,A9 2 B.D9,A9 3 B.D9,A9 4 B.D9,A9 5 B.D9]=B.D9/\I7 6 B.D9=true:=⟨rfl,rfl⟩
theorem B4V{v r x:Nat}{pl:DV}{nn:Nat}(names:List ByteArray)(nodes:List Nat)(hl:names.length<=nodes.length)(hn:names.length+l.length<2 ^ 30)(sg:List E5):∀(q m:Nat)(o:List EN),m+q=names.length->o.length<=l.length+m->
 Bz C9 t (iN A8) (.list 3 (l.map EN.D9)) p (iN v) (iN r) (iN x) (.list 1 (nodes.map iN)) (.list 3 (o.map EN.D9)) pl (iN nn) (iN x) (.list 1 (names.map DV.str)) (iN names.length) (iN m) e.D9 sg =
 Bz C9 t (iN A8) (.list 3 (l.map EN.D9)) p (iN v) (iN r) (iN x) (.list 1 (nodes.map iN)) (.list 3 ((o++List.zipWith (λs n=>(⟨s,n,[]⟩:EN)) (names.drop m) (nodes.drop m)).map EN.D9)) pl (iN nn) (iN x) (.list 1 (names.map DV.str)) (iN names.length) (iN names.length) e.D9 sg:=by
 intro q;induction q with
 |zero=>intro m o hm ho;rw[z4q (by omega),show m=names.length by omega];simp
 |succ q ih=>
   intro m o hm ho;have Rx:m<names.length:=by omega
   have HY:m<nodes.length:=by omega
   rw[Iq,z2q Rx,z2q HY,List.zipWith_cons_cons];have i1:M9 1 (.list 1 (names.map DV.str)) (iN m)=some (.str names[m]):=V5 Rx;have ap:EP 3 (.list 3 (o.map EN.D9)) (.list 3 [.agg [.str names[m],iN nodes[m],.list 1 []]])=some (.list 3 ((o++[(⟨names[m],nodes[m],[]⟩:EN)]).map EN.D9)):=by rw[Kn (by simp[R9];omega)];simp[EN.D9]
   simp only[Aq,I6,F3,Rx,K3,F6,i1,A9M,IB HY,Bd,U_,O8,F8,ap,addN (show m<2 ^ 62 by omega)]
   rw[ih (m+1) _ (by omega) (by simp;omega),List.append_assoc];rfl
def B3r(A8:Nat):∀(pt:F5)(nd:Nat)(x:PS),x.names.length=x.nodes.length->(BG A8 pt nd x).1.names.length=(BG A8 pt nd x).1.nodes.length:=by
 have key:∀(pt:F5),(∀(nd:Nat)(x:PS),x.names.length=x.nodes.length->(BG A8 pt nd x).1.names.length=(BG A8 pt nd x).1.nodes.length):=by
  intro pt;induction pt using F5.ind with
  |h pt ih=>
    have D6:∀(ps:List F5),(∀q∈ps,q∈pt.D6)->∀(ns:List Nat)(x:PS),x.names.length=x.nodes.length->(DY A8 ps ns x).1.names.length=(DY A8 ps ns x).1.nodes.length:=by
     intro ps;induction ps with
     |nil=>intro _ ns x hx;rw[DY];exact hx
     |cons q ps ihp=>
       intro hs ns x hx;have a:=ih q (hs q (zgq ..)) (ns.headD 0) x hx;rw[DY];split
       ·exact a
       ·exact ihp (λw hw=>hs w (zcq _ hw)) ns.tail _ a
    intro nd x hx;rw[A8z];split
    ·exact hx
    ·split
     ·simp[hx]
     ·split
      ·obtain⟨m1,m2⟩:=OU x A8 pt.lo pt.hi nd 7 2;split
       ·rw[m1,m2];exact hx
       ·exact D6 _ (λq hq=>hq) _ _ (by rw[m1,m2];exact hx)
      ·split
       ·obtain⟨m1,m2⟩:=OU x A8 pt.lo pt.hi nd 8 1;split
        ·rw[m1,m2];exact hx
        ·exact D6 _ (λq hq=>hq) _ _ (by rw[m1,m2];exact hx)
       ·exact hx
 exact key
def A9Y(A:Fa b i t p j)(B6u:A8<2 ^ 30)(hk:e.D6.length=e.J8.length+1)(hK:∀x (hx:x<e.J8.length),PY b i t R A8 (l.length+e.J8[x].size) (e.kd (x+1)))(hP:∀q∈e.J8,q.right=true/\q.thin=true/\q.txt/\q.size<2 ^ 29)(Uw:e.J8.length<2 ^ 29){v r:Nat}(hV:EV l)(hll:l.length<2 ^ 30):∀(q x:Nat)(w:W)(sg:List E5),x+q=e.J8.length->BZ false b i t p j w sg->l6 w->Z6 w.s.l.length l->v<w.s.l.length->r<w.s.l.length->w.D6.length<=x+1->(Gd R A8 l v r ((e.J8.zip e.D6.tail).drop x) w).1.s.J7+10<2 ^ 62->
 Tt false b i t p j sg (De C9 t (iN A8) (.list 3 (l.map EN.D9)) p (iN v) (iN r) (.list 7 (e.J8.map F5.D9)) (iN e.J8.length) (iN x) e.D9 sg) [iN (Gd R A8 l v r ((e.J8.zip e.D6.tail).drop x) w).2] (Gd R A8 l v r ((e.J8.zip e.D6.tail).drop x) w).1:=by
 have zl:(e.J8.zip e.D6.tail).length=e.J8.length:=by rw[zGq,zuq,hk];simp
 intro q;induction q with
 |zero=>intro x w sg hx h I hE hv AY HV hr;rw[z4q (by omega),Gd,Pm];simp only[Aq,I6,F3,I9];rw[A7 (by omega)];exact⟨sg,rfl,h,Kx.refl _⟩
 |succ q ih=>
   intro x w sg hx h I hE hv AY HV hr;have Dr:x<e.J8.length:=by omega
   have hz:x<(e.J8.zip e.D6.tail).length:=by omega
   have ez:(e.J8.zip e.D6.tail)[x]=(e.J8[x],e.kd (x+1)):=by rw[zvq];congr 1;rw[ztq,Ex.kF]
   rw[z2q hz,ez,Gd]at hr ⊢;obtain⟨P1,P2,P3,P4⟩:=hP _ (z3q Dr);have K:=hK x Dr;have start:=Pm C9 t (iN A8) (.list 3 (l.map EN.D9)) p (iN v) (iN r) (.list 7 (e.J8.map F5.D9)) (iN e.J8.length) (iN x) e.D9 sg;simp only[Aq,I6,F3,Dr,K3,F6,B4f Dr,JJ h.t,z0q,U1,h.t.box,JZ,A6f]at start;by_cases ge:w.err=0;rotate_left
   ·rw[C8 ge]at hr ⊢;simp only[ge,R5,ziq,F6]at start;exact⟨sg,start,h,Kx.refl _⟩
   rw[A7 (λh=>h ge)]at hr ⊢;simp only[ge,K3,zbq,z1q,G8]at start;simp only at hr ⊢;have hpp:e.J8[x].pat=true:=by unfold F5.right at P1;rw[zwq]at P1;exact P1.1
   have G:=NB (A8:=A8) (by omega) e.J8[x] v ⟨w.s,[],[],P9⟩ I.ok hv hpp;have L:=ym A8 e.J8[x] v ⟨w.s,[],[],P9⟩;have N:=B3r A8 e.J8[x] v ⟨w.s,[],[],P9⟩ rfl;have PI:=λhh=>B5w h.t.st I.ok (A8:=A8) (by omega) P1 P2 P3 (by omega) hv hh;have hint:XB w.s A8 e.J8[x] v=BG A8 e.J8[x] v ⟨w.s,[],[],P9⟩:=rfl;rw[hint]at PI;generalize BG A8 e.J8[x] v ⟨w.s,[],[],P9⟩=z at G L N PI hr ⊢;simp only[z5q,Nat.zero_add]at L;have g0:Good w ({ w with s:=z.1.s }:W):=I.s (w':={ w with s:=z.1.s }) G.ok G.ext rfl rfl rfl;have g1:=g0.fails z.2 z.1.bad;have hs:(({ w with s:=z.1.s }:W).fails z.2 z.1.bad).s=z.1.s:=W9 ..;have Ll:(({ w with s:=z.1.s }:W).fails z.2 z.1.bad).D6=w.D6:=A1O ..
   let inn:List EN:=if z.2≠0 then[]else List.zipWith (λs n=>(⟨s,n,[]⟩:EN)) z.1.names z.1.nodes
   have hE2:Z6 (({ w with s:=z.1.s }:W).fails z.2 z.1.bad).s.l.length (l++inn):=by
    refine(hE.mono g1.ext.le).app ?_;simp only[inn]
    split
    ·intro y hy;cases hy
    ·intro y hy;obtain⟨m,hm,rfl⟩:=zdq.1 hy;simp only[zCq]at hm;rw[zzq];exact⟨by rw[hs];exact G.nd (by simp) _ (z3q (by omega)),by simp⟩
   have hV2:EV (l++inn):=hV.app λy hy=>by
    simp only[inn]at hy;split at hy
    ·cases hy
    ·obtain⟨m,hm,rfl⟩:=zdq.1 hy;rw[zzq];simp
   have hil:inn.length<=e.J8[x].size:=by
    simp only[inn]
    split
    ·simp
    ·rw[zCq];omega
   have B8y:(l++if z.2≠0 then[]else List.zipWith (λs n=>(⟨s,n,[]⟩:EN)) z.1.names z.1.nodes)=l++inn:=rfl;have B9f:∀(c:W×Nat),J4 R c.1 (e.kd (x+1)) A8 (l++if z.2≠0 then[]else List.zipWith (λs n=>(⟨s,n,[]⟩:EN)) z.1.names z.1.nodes)=J4 R c.1 (e.kd (x+1)) A8 (l++inn):=λ_=>rfl;rw[B8y]at hr ⊢;generalize hw1:({ w with s:=z.1.s }:W).fails z.2 z.1.bad=w1 at g1 hs Ll hE2 hr ⊢;have Kl:=K.le (lev':=A8) (n':=(l++inn).length) (zpq _) (by rw[zkq];omega);obtain⟨b1,b2⟩:=U5 (l:=l++inn) Kl.good Kl.sz g1.i hE2;have bk:=Sa R w1 (e.kd (x+1)) A8 (l++inn);have Pk:=λsg' (h':BZ false b i t p j w1 sg')=>FT (l:=l++inn) (e:=e) (idx:=x+1) A h' g1.i (by omega) Kl hE2 hV2 (by rw[Ll];omega);generalize J4 R w1 (e.kd (x+1)) A8 (l++inn)=c at b1 b2 bk Pk hr ⊢;have rc:=b1.lt (g1.lt AY);have g2:=U4 b1.i (a:=c.2) (b:=r) b2 rc (e.kd (x+1));have gk:=GI c.1 c.2 r (e.kd (x+1));have Pg:=λsg' (h':BZ false b i t p j c.1 sg')=>DJ h' A b1.i.ok (x:=c.2) (y:=r) b2 rc (e.kd (x+1));generalize c.1.agree c.2 r (e.kd (x+1))=w2 at g2 gk Pg hr ⊢;have gg:=(g1.trans b1).trans g2;have ar:=TE (R:=R) (A8:=A8) (l:=l) (r:=r) (v:=v) (by omega) ((e.J8.zip e.D6.tail).drop (x+1)) w2 (λa ha=>by obtain⟨m,hm,rfl⟩:=zdq.1 (znq ha);rw[zvq,ztq,Ex.kF];rw[zl]at hm;have Km:=hK m hm;obtain⟨q1,-⟩:=hP _ (z3q hm);unfold F5.right at q1;rw[zwq]at q1;exact⟨Km.good,Km.sz,q1.1⟩) g2.i (hE.mono gg.ext.le) (gg.lt hv) (gg.lt AY)
   have r1:=b1.ext.J7;have r2:=g2.ext.J7;have r3:=ar.1.ext.J7;rw[hs]at r1;obtain⟨s1,e1,a1,k1⟩:=PI (by omega);have M1:=KE.into h A k1 a1;obtain⟨s2,e2,m2,k2⟩:=B2b M1 A z.2 (if z.2≠0 then z.1.bad else P9);have hB:({ w with s:=z.1.s }:W).fails z.2 (if z.2≠0 then z.1.bad else P9)=w1:=by
    rw[<- hw1];by_cases gz:z.2=0
    ·unfold W.fails;rw[A7 (λh=>h.2 gz),A7 (λh=>h.2 gz)]
    ·rw[C8 gz]
   rw[hB]at m2;obtain⟨s3,e3,m3,k3⟩:=Pk s2 m2 (by omega);obtain⟨s4,e4,m4,k4⟩:=Pg s3 m3 (by omega);obtain⟨s5,e5,m5,k5⟩:=ih (x+1) w2 s4 (by omega) m4 g2.i (hE.mono gg.ext.le) (gg.lt hv) (gg.lt AY) (by rw[gk];rw[Ll]at bk;omega) hr;have KK:Kx [b,i,t,p,j] sg s5:=((EG k1.k3).trans (EG k2)).trans ((k3.trans (EG k4)).trans k5);refine⟨s5,?_,m5,KK⟩;have wl:=A2g l [] (by simp;omega) s2;rw[List.append_nil]at wl;have wl':C9.r Cz [(.list 3 (l.map EN.D9),.val),(.list 3 [],.val)] s2=_:=wl;have lnS:∀ns:List ByteArray,O3 (.list 1 (ns.map DV.str))=some (iN ns.length):=λns=>by simp[iN]
   have four:∀a c d f:DV,Q3 0 (.J9 [a,c,d,f])=some a/\Q3 1 (.J9 [a,c,d,f])=some c/\Q3 2 (.J9 [a,c,d,f])=some d/\Q3 3 (.J9 [a,c,d,f])=some f:=λ_ _ _ _=>⟨rfl,rfl,rfl,rfl⟩;have z0:(DV.int .i64 0)=iN 0:=rfl;have e15:=Iq C9 t (iN A8) (.list 3 (l.map EN.D9)) p (iN v) (iN r) (iN x);have last:∀(names:List ByteArray)(nodes:List Nat),inn=List.zipWith (λs n=>(⟨s,n,[]⟩:EN)) names nodes->names.length<=nodes.length->names.length<=e.J8[x].size->
    Bz C9 t (iN A8) (.list 3 (l.map EN.D9)) p (iN v) (iN r) (iN x) (.list 1 (nodes.map iN)) (.list 3 (l.map EN.D9)) (.list 7 (e.J8.map F5.D9)) (iN e.J8.length) (iN x) (.list 1 (names.map DV.str)) (iN names.length) (iN 0) e.D9 s2=De C9 t (iN A8) (.list 3 (l.map EN.D9)) p (iN v) (iN r) (.list 7 (e.J8.map F5.D9)) (iN e.J8.length) (iN (x+1)) e.D9 s4:=by
    intro names nodes hi eD jy;have lp:=B4V (t:=t) (p:=p) (e:=e) (A8:=A8) (l:=l) (v:=v) (r:=r) (x:=x) (pl:=.list 7 (e.J8.map F5.D9)) (nn:=e.J8.length) names nodes eD (by have:=K.ms;omega) s2 names.length 0 l (by omega) (by omega);rw[z6q,z6q,<- hi]at lp;rw[lp,Iq];simp only[Aq,zeq,R5,I6,F3,z1q,G8,addN (show x<2 ^ 62 by omega),N_,e3,z0q,Uz (show x+1<e.D6.length by omega),e4]
   by_cases gz:z.2=0
   ·have MZ:inn=List.zipWith (λs n=>(⟨s,n,[]⟩:EN)) z.1.names z.1.nodes:=A7 (λh=>h gz);rw[A7 (λh=>h gz)]at e1;rw[A7 (λh=>h gz)]at e2;have nf:C9.r R8 [(.undef,.ptr t 0),(iN 0,.val),(P9.D9,.val)] s1=some ([],s2):=by have:=e2;rw[gz]at this;exact this
    rw[e1]at start;simp only[I6,(four _ _ _ _).1,(four _ _ _ _).2.1,(four _ _ _ _).2.2.1,(four _ _ _ _).2.2.2,(zk P9).1,(zk P9).2,F8,nf,wl',lnS,z0,z0q]at start;rw[start,last z.1.names z.1.nodes MZ (by omega) (by omega)];exact e5
   ·have MZ:inn=List.zipWith (λs n=>(⟨s,n,[]⟩:EN)) [] []:=C8 gz;rw[C8 gz]at e1 e2;rw[e1]at start;simp only[I6,(four _ _ _ _).1,(four _ _ _ _).2.1,(four _ _ _ _).2.2.1,(four _ _ _ _).2.2.2,(zk z.1.bad).1,(zk z.1.bad).2,F8,e2,wl',z0q]at start;have l0:O3 (.list 1 [])=some (iN 0):=rfl;simp only[l0,I6,z0]at start;have:=last [] [] MZ (by simp) (by simp);simp only[zFq,z5q]at this;rw[start,this];exact e5
def B49(A:Fa b i t p j)(hK:∀k∈e.D6,PY b i t R A8 l.length k)(hV:EV l){want out:Nat}(hw:want<5)(bB:e.D6.length<2 ^ 29):∀(q x:Nat)(w:W)(sg:List E5),x+q=e.D6.length->BZ g b i t p j w sg->l6 w->Z6 w.s.l.length l->w.D6.length<=x->(LZ R A8 l want (e.D6.drop x) w).s.J7+10<2 ^ 62->
 Tt g b i t p j sg (Im C9 t (iN A8) (.list 3 (l.map EN.D9)) p (iN want) (iN out) (A9 15 e.D9) (iN e.D6.length) (iN x) e.D9 sg) [iN out] (LZ R A8 l want (e.D6.drop x) w):=by
 intro q;induction q with
 |zero=>intro x w sg hx h I hE HV hr;rw[z4q (by omega),LZ,TH];simp only[Aq,I6,F3,I9];rw[A7 (by omega)];exact⟨sg,rfl,h,Kx.refl _⟩
 |succ q ih=>
   intro x w sg hx h I hE HV hr;have Dr:x<e.D6.length:=by omega
   have K:=hK _ (z3q Dr);rw[z2q Dr,LZ]at hr ⊢;rw[Ex.kF Dr]at K hr ⊢;have start:=TH C9 t (iN A8) (.list 3 (l.map EN.D9)) p (iN want) (iN out) (A9 15 e.D9) (iN e.D6.length) (iN x) e.D9 sg;simp only[Aq,I6,F3,Dr,K3,F6,Uz Dr,N_]at start;obtain⟨a1,a2⟩:=U5 K.good K.sz I hE;have ak:=Sa R w (e.kd x) A8 l;have Pa:=FT (g:=g) (e:=e) A h I (idx:=x) Dr K hE hV (by omega);generalize J4 R w (e.kd x) A8 l=a at a1 a2 ak Pa hr ⊢;have f5:=a1.i.ok.five;have g1:=U4 a1.i (a:=a.2) (b:=want) a2 (by omega) (e.kd x);have gk:=GI a.1 a.2 want (e.kd x);have Pg:=λsg' (h':BZ g b i t p j a.1 sg')=>DJ h' A a1.i.ok (x:=a.2) (y:=want) a2 (by omega) (e.kd x);generalize a.1.agree a.2 want (e.kd x)=w1 at g1 gk Pg hr ⊢;have ag:=a1.trans g1;have os:=yg (R:=R) (A8:=A8) (l:=l) hw (e.D6.drop (x+1)) w1 (λk hk=>⟨(hK k (znq hk)).good,(hK k (znq hk)).sz⟩) g1.i (hE.mono ag.ext.le);have r1:=g1.ext.J7;have r2:=os.ext.J7;obtain⟨s1,e1,m1,k1⟩:=Pa (by omega);obtain⟨s2,e2,m2,k2⟩:=Pg s1 m1 (by omega);obtain⟨s3,e3,m3,k3⟩:=ih (x+1) w1 s2 (by omega) m2 g1.i (hE.mono ag.ext.le) (by rw[gk];omega) hr;refine⟨s3,?_,m3,k1.trans ((EG k2).trans k3)⟩;simp only[e1,I6,z0q,e2,addN (show x<2 ^ 62 by omega)]at start;exact start.trans e3
end
end Go.Su

/-
 Inference in memory: expressions.
-/
namespace Go.Su
set_option linter.defProp false
section
variable {b i t p j:Nat}{g:Bool}{w:W}{sg:List E5}{R:Rec}{e:Ex}{A8:Nat}{l:List EN}
def B3S(A:Fa b i t p j)(h:BZ g b i t p j w sg)(I:l6 w)(hk:e.D6.length=e.J8.length+1)(K0:PY b i t R A8 l.length (e.kd 0))(hK:∀x (hx:x<e.J8.length),PY b i t R A8 (l.length+e.J8[x].size) (e.kd (x+1)))(hP:∀q∈e.J8,q.right=true/\q.thin=true/\q.txt/\q.size<2 ^ 29)(Uw:e.J8.length<2 ^ 29)(hE:Z6 w.s.l.length l)(hV:EV l)(hll:l.length<2 ^ 30)(HV:w.D6=[])(hr:(LD R w e A8 l).1.s.J7+10<2 ^ 62):
 Tt false b i t p j sg (C9.r Ih [(.undef,.ptr t 0),(e.D9,.val),(iN A8,.val),(.list 3 (l.map EN.D9),.val),(.undef,.ptr p 0)] sg) [iN (LD R w e A8 l).2] (LD R w e A8 l).1:=by
 have start:=(gU t e.D9 (iN A8) (.list 3 (l.map EN.D9)) p sg).trans (jG _ _ _ _ _ _ _);simp only[AJ,F8,N_,Uz (show 0<e.D6.length by omega),show(DV.int .i64 0)=iN 0 from rfl]at start;rw[Ex.A0T,B4i]at start;obtain⟨a1,a2⟩:=U5 K0.good K0.sz I hE;have ak:=Sa R w (e.kd 0) A8 l;have Pa:=FT (g:=g) A h I (idx:=0) (by omega) K0 hE hV (by rw[HV];simp);unfold LD at hr ⊢;simp only at hr ⊢;generalize J4 R w (e.kd 0) A8 l=a at a1 a2 ak Pa hr ⊢;rw[HV]at ak;simp only[z5q]at ak;have lb:A8<2 ^ 30:=by have:=K0.sz;omega
 obtain⟨v1,v2⟩:=Ab a1.i (show A8<2 ^ 31 by omega);have vk:=TV a.1 A8;have Pv:=λsg' (h':BZ g b i t p j a.1 sg')=>Nn h' A a1.i.ok A8;generalize a.1.fresh A8=v at v1 v2 vk Pv hr ⊢;have g1:=U4 v1.i (a:=a.2) (b:=v.2) (v1.lt a2) v2 (e.kd 0);have gk:=GI v.1 a.2 v.2 (e.kd 0);have Pg:=λsg' (h':BZ g b i t p j v.1 sg')=>DJ h' A v1.i.ok (x:=a.2) (y:=v.2) (v1.lt a2) v2 (e.kd 0);generalize v.1.agree a.2 v.2 (e.kd 0)=w0 at g1 gk Pg hr ⊢;obtain⟨r1,r2⟩:=Ab g1.i (show A8<2 ^ 31 by omega);have rk:=TV w0 A8;have Pr:=λsg' (h':BZ g b i t p j w0 sg')=>Nn h' A g1.i.ok A8;generalize w0.fresh A8=r at r1 r2 rk Pr hr ⊢;have t1:=Da r1 (l:=[v.2,r.2]) (by intro x hx;simp only[zsq,zoq,or_false]at hx;rcases hx with rfl | rfl;exact r1.lt (g1.lt v2);exact r2);have gg:=(((a1.trans v1).trans g1).trans t1);have vl:=t1.lt (g1.lt v2);have ar:=TE (R:=R) (A8:=A8) (l:=l) (r:=r.2) (v:=v.2) (by omega) (e.J8.zip e.D6.tail) (r.1.Y2 [v.2,r.2]) (λa ha=>by
  obtain⟨m,hm,rfl⟩:=zdq.1 ha;rw[zGq,zuq]at hm;rw[zvq,ztq,Ex.kF];have Vs:m<e.J8.length:=by omega
  have Km:=hK m Vs;obtain⟨q1,-⟩:=hP _ (z3q Vs);unfold F5.right at q1;rw[zwq]at q1;exact⟨Km.good,Km.sz,q1.1⟩) t1.i (hE.mono gg.ext.le) vl r2
 have x1:=v1.ext.J7;have x2:=g1.ext.J7;have x3:=r1.ext.J7;have x4:=ar.1.ext.J7;have rt:(r.1.Y2 [v.2,r.2]).s=r.1.s:=rfl;rw[rt]at x4;obtain⟨s1,e1,m1,k1⟩:=Pa (by omega);obtain⟨s2,e2,m2,k2⟩:=Pv s1 m1;obtain⟨s3,e3,m3,k3⟩:=Pg s2 m2 (by omega);obtain⟨s4,e4,m4,k4⟩:=Pr s3 m3;obtain⟨c,u,c1,c2,m5,k5⟩:=fB m4 A [v.2,r.2];have M:=A9Y (R:=R) (e:=e) (A8:=A8) (l:=l) A lb hk hK hP Uw (v:=v.2) (r:=r.2) hV hll e.J8.length 0 (r.1.Y2 [v.2,r.2]) _ (by omega) m5 t1.i (hE.mono gg.ext.le) vl r2 (by simp only[kE,rk,gk,vk];omega) (by rw[z6q];exact hr);rw[z6q]at M;obtain⟨s6,e6,m6,k6⟩:=M;simp only[zhq,zFq]at e6;simp only[e1,I6,z0q,N_,e2,e3,e4,O8,F8,c1,c2]at start;exact⟨s6,start.trans e6,m6,(k1.trans (EG k2)).trans (((EG k3).trans (EG k4)).trans (k5.trans k6))⟩
def B8P(e:Ex):O3 (A9 15 e.D9)=some (iN e.D6.length):=by rw[Ex.A6h];simp[iN]
def B8b(A:Fa b i t p j)(h:BZ g b i t p j w sg)(I:l6 w)(hK:∀k∈e.D6,PY b i t R A8 l.length k)(hE:Z6 w.s.l.length l)(hV:EV l)(HV:w.D6=[])(bB:e.D6.length<2 ^ 29)(hr:(LZ R A8 l (if e.op=7 then 2 else 0) e.D6 w).s.J7+10<2 ^ 62):
 Tt g b i t p j sg (C9.r Lm [(.undef,.ptr t 0),(e.D9,.val),(iN A8,.val),(.list 3 (l.map EN.D9),.val),(.undef,.ptr p 0)] sg) [iN (if e.op=5\/e.op=6\/e.op=7 then 1 else 0)] (LZ R A8 l (if e.op=7 then 2 else 0) e.D6 w):=by
 have start:=(qY t e.D9 (iN A8) (.list 3 (l.map EN.D9)) p sg).trans (rX _ _ _ _ _ _ _);simp only[AJ,F8,Ex.A96,BJ,I6,F3,I9,lX,B8P]at start;have L:=λ(want out:Nat)(hw:want<5) hrr=>B49 (g:=g) (R:=R) (e:=e) (A8:=A8) (l:=l) A hK hV (want:=want) (out:=out) hw bB e.D6.length 0 w sg (by omega) h I hE (by rw[HV];simp) hrr;simp only[z6q]at L;by_cases h5:e.op=5
 ·rw[A7 (show ¬e.op=7 by omega)]at hr ⊢;rw[C8 (show e.op=5\/e.op=6\/e.op=7 by omega)];rw[C8 h5]at start;obtain⟨s1,e1,m1,k1⟩:=L 0 1 (by omega) hr;exact⟨s1,start.trans e1,m1,k1⟩
 rw[A7 h5]at start;by_cases h6:e.op=6
 ·rw[A7 (show ¬e.op=7 by omega)]at hr ⊢;rw[C8 (show e.op=5\/e.op=6\/e.op=7 by omega)];rw[C8 h6]at start;obtain⟨s1,e1,m1,k1⟩:=L 0 1 (by omega) hr;exact⟨s1,start.trans e1,m1,k1⟩
 rw[A7 h6]at start;by_cases h7:e.op=7
 ·rw[C8 h7]at hr start ⊢;rw[C8 (show e.op=5\/e.op=6\/e.op=7 by omega)];obtain⟨s1,e1,m1,k1⟩:=L 2 1 (by omega) hr;exact⟨s1,start.trans e1,m1,k1⟩
 ·rw[A7 h7]at hr start ⊢;rw[A7 (show ¬(e.op=5\/e.op=6\/e.op=7)by omega)];obtain⟨s1,e1,m1,k1⟩:=L 0 0 (by omega) hr;exact⟨s1,start.trans e1,m1,k1⟩
def B4L(A:Fa b i t p j){w':W}{n:Nat}(h:BZ g b i t p j w' sg)(z0 z1 z2 z3:DV):
 ∃sg',N8 C9 p (iN n) z0 z1 z2 z3 sg=some ([iN n,(DD.mk n w'.types w'.vars w'.D6).D9],sg')/\KE b i t w' sg'/\Kx [p] sg sg':=by
 obtain⟨m1,m2,m3,c1,c2,c3,c4⟩:=h.d;have lp:=CV c1;have i0:(Xb w' m1 m2 m3)[0]?=some (iN 0,.val):=rfl;have s0:(Xb w' m1 m2 m3).set 0 (iN n,.val)=[(iN n,.val),(.list 1 (w'.types.map iN),m1),(.list 1 (w'.vars.map iN),m2),(.list 4 (w'.D6.map DD.D9),m3)]:=rfl;have Rx:(∃n,m1=.U2 j n 1)\/m1=.full:=by
  cases g with
  |true=>simp only[F6]at c2;obtain⟨n,hn,-⟩:=c2;exact .inl ⟨n,hn⟩
  |false=>simpa using c2
 have sd:VO 0 4 [(iN n,.val),(.list 1 (w'.types.map iN),m1),(.list 1 (w'.vars.map iN),m2),(.list 4 (w'.D6.map DD.D9),m3)]=some [iN n,.list 1 (w'.types.map iN),.list 1 (w'.vars.map iN),.list 4 (w'.D6.map DD.D9)]:=by rcases Rx with⟨n,rfl⟩ | rfl<;>rcases c3 with rfl | rfl<;>rcases c4 with rfl | rfl<;>rfl
 refine⟨sg.set p (.box [(iN n,.val),(.list 1 (w'.types.map iN),m1),(.list 1 (w'.vars.map iN),m2),(.list 4 (w'.D6.map DD.D9),m3)]),?_,⟨?_,?_⟩,Kx.set1 _ (.box [(iN n,.val),(.list 1 (w'.types.map iN),m1),(.list 1 (w'.vars.map iN),m2),(.list 4 (w'.D6.map DD.D9),m3)]) (by simp)⟩
 ·rw[cK];simp only[c1,I6,O8,F8,i0,s0,Bg lp,sd];rw[DD.D9,A1k];rfl
 ·exact h.t.st.mono (zAq A.pp.1) (zAq A.pp.2.1)
 ·rw[Cm A.pp.2.2];exact h.t.box
end
def B3s{e:Ex}{x:Nat}(hk:e.D6.length=e.J8.length+1)(hx:x<e.J8.length):e.J8[x].size+(e.kd (x+1)).Y0<=e.Y0:=by have h1:=e.CF;have h2:=JB (zqq (f:=F5.Y0) (z3q hx));have h3:=JB (zqq (f:=Ex.Y0) (Ex.Cr (e:=e) (i:=x+1) (by omega)));have h4:=F5.Tc e.J8[x];omega
set_option maxHeartbeats 2000000 in
def A8L{b i t:Nat}:∀(f:Nat)(e:Ex),e.right=true->e.size<=f->RSp b i t (N9 f) e
 |0,e,_,hs=>by have:=Ex.size_eq e;omega
 |f+1,e,Uy,hs=>λA8 l w sg hl hm I hE hV T hr=>by
   obtain⟨k1,k2,k3⟩:=Ex.tY Uy;have BQ:e.fit:=Ex.aP (by omega);have Sm:=BQ.one
   let p:=sg.length
   let w0:W:={ w with types:=[],vars:=[],D6:=[] }
   let K6:=sg++[.box (Xb w0 (.U2 (p+1) 1 1) .full .full),.U2 1 1 0]
   have ltb:=T.st.lt;have ltt:=CV T.box;have A:Fa b i t p (p+1):=by constructor<;>omega
   have M0:BZ true b i t p (p+1) w0 K6:=by
    refine⟨⟨T.st.app _,?_⟩,.U2 (p+1) 1 1,.full,.full,?_,?_,.inl rfl,.inl rfl⟩
    ·unfold H5;rw[zjq ltt];exact T.box
    ·simp[K6,p,H5]
    ·simp only[F6]
     exact⟨1,rfl,by simp[K6,p,List.getElem?_append_right,w0]⟩
   have I0:l6 w0:=⟨I.ok,by simp[w0],⟨by simp[w0],by simp[w0]⟩,trivial⟩;have gi:Pz (sg++[E5.box [((iI 0),.val),((.list 1 []),.full),((.list 1 []),.full),((.list 4 []),.full)]]) sg.length [1]=some K6:=by
    have b0:∀(c:List (DV×F4))(L:List E5),H5 (sg++E5.box c::L) sg.length=some c:=λc L=>by simp[H5]
    simp only[Pz,b0,I6,List.getElem?_cons_zero,List.getElem?_cons_succ,Nat.zero_lt_one,F6];rw[List.set_append_right _ _ (zpq _),Nat.sub_self,List.set_cons_zero];simp[K6,p,Xb,w0,iN]
   have ex:N9 (f+1) e A8 l w=((U0 (N9 f) w0 e A8 l).1,(U0 (N9 f) w0 e A8 l).2,.mk (U0 (N9 f) w0 e A8 l).2 (U0 (N9 f) w0 e A8 l).1.types (U0 (N9 f) w0 e A8 l).1.vars (U0 (N9 f) w0 e A8 l).1.D6):=by rw[N9]
   rw[ex]at hr ⊢;simp only at hr ⊢;have fin:∀{g:Bool}(z0 z1 z2 z3:DV)(sg':List E5)(n:Nat)(w':W),BZ g b i t p (p+1) w' sg'->Kx [b,i,t,p,p+1] K6 sg'->C9.r Bu [(.undef,.ptr t 0),(e.D9,.val),(iN A8,.val),(.list 3 (l.map EN.D9),.val)] sg=N8 C9 p (iN n) z0 z1 z2 z3 sg'->(U0 (N9 f) w0 e A8 l)=(w',n)->
    ∃sg',C9.r Bu [(.undef,.ptr t 0),(e.D9,.val),(iN A8,.val),(.list 3 (l.map EN.D9),.val)] sg=some ([iN (U0 (N9 f) w0 e A8 l).2,(DD.mk (U0 (N9 f) w0 e A8 l).2 (U0 (N9 f) w0 e A8 l).1.types (U0 (N9 f) w0 e A8 l).1.vars (U0 (N9 f) w0 e A8 l).1.D6).D9],sg')/\KE b i t (U0 (N9 f) w0 e A8 l).1 sg'/\Kx [b,i,t] sg sg':=by
    intro g z0 z1 z2 z3 sg' n w' M K h hb;obtain⟨s2,e2,t2,k2⟩:=B4L A (n:=n) M z0 z1 z2 z3;rw[hb];refine⟨s2,h.trans e2,t2,?_⟩;have l1:=K.le;have l2:=k2.le;simp only[K6,zkq,z9q,z5q]at l1;refine⟨by omega,λx hx hn=>?_⟩;simp only[zsq,zoq,or_false,not_or]at hn;rw[k2.eq x (by omega) (by simp;omega),K.eq x (by simp[K6];omega) (by simp;omega)];exact zjq hx
   have KK:∀x,x<e.D6.length->Cn (N9 f) (e.kd x)/\RSp b i t (N9 f) (e.kd x)/\A8+1+(e.kd x).size<2 ^ 30/\(e.kd x).Y0<e.Y0/\e.kd x∈e.D6:=λx hx=>by have m:=Ex.Cr hx;have s:=Ex.FR m;exact⟨Ir f _ (Ex.Hf Uy m),A8L f _ (Ex.Hf Uy m) (by omega),by omega,Ex.bJ m,m⟩
   have KO:∀x,x<e.D6.length->PY b i t (N9 f) (A8+1) (l.length+2) (e.kd x):=λx hx=>by obtain⟨a,c,d,m,-⟩:=KK x hx;exact⟨a,c,d,by omega⟩
   have VS:∀x,x<e.D6.length->PY b i t (N9 f) A8 l.length (e.kd x):=λx hx=>(KO x hx).le (by omega) (by omega);have za:=e.A5X;have zb:=e.A5Y;have zl:=e.A5Z;have na:=Ex.kK Uy;have lb:A8<2 ^ 31:=by omega
   have E0:Z6 w0.s.l.length l:=hE;have start:=(jZ t e.D9 (iN A8) (.list 3 (l.map EN.D9)) sg).trans (lU _ _ _ _ _ _);have c3:J3 (A9 3 e.D9)=true:=by rw[Ex.L_];rfl
   have nk:∀c:Int,D7 .eql (A9 0 e.D9) (iI c)=some (.bool (decide (e.E8=c))):=λc=>by rw[Ex.CJ,BJ]
   have nk2:∀c:Int,D7 .eql (iI e.E8) (iI c)=some (.bool (decide (e.E8=c))):=λc=>BJ _ _ _;have B80:e.E8=2\/e.E8=3\/e.E8=4\/e.E8=5->D7 .sub (A9 0 e.D9) (iI 2)=some (iN (e.E8-2).toNat):=λh=>by
    rw[Ex.CJ,Je,GX (by omega) (by omega)];simp only[iN]
    congr 2;omega
   simp only[AJ,F8,N_,gi,I6,nk,F3,I9]at start;have c20:=cB C9 t (iN A8) (.list 3 (l.map EN.D9)) p (A9 0 e.D9) e.D9 K6;simp only[nk,nk2,N_,(B0z e).1,I6,F3,I9,c3,F8]at c20;rw[Ex.L_]at c20;have rP:9<=e.E8->C9.r Bu [(.undef,.ptr t 0),(e.D9,.val),(iN A8,.val),(.list 3 (l.map EN.D9),.val)] sg=LU C9 t (iN A8) (.list 3 (l.map EN.D9)) p (A9 0 e.D9) e.D9 K6:=λh9=>by rw[start,A7 (by omega),A7 (by omega),A7 (by omega),A7 (by omega),A7 (by omega),A7 (by omega),A7 (by omega),A7 (by omega)]
   have z0:(DV.int .i64 0)=iN 0:=rfl;have z1:(DV.int .i64 1)=iN 1:=rfl;have z7:(DV.int .i64 7)=iN 7:=rfl;have z8:(DV.int .i64 8)=iN 8:=rfl;have z9:(DV.int .i64 9)=iN 9:=rfl;by_cases g1:e.E8=1
   ·have hb:U0 (N9 f) w0 e A8 l=w0.name e A8 l:=by unfold U0;rw[C8 g1]
    rw[hb]at hr;obtain⟨s2,e2,m2,k2⟩:=B5G M0 A I0 (e:=e) (l:=l) lb E0 (by omega) hV rfl hr;rw[C8 g1,e2]at start;exact fin _ _ _ _ s2 _ _ m2 k2 start hb
   by_cases g2:e.E8=2\/e.E8=3\/e.E8=4\/e.E8=5
   ·have hb:U0 (N9 f) w0 e A8 l=(w0,(e.E8-2).toNat):=by unfold U0;rw[A7 g1,C8 g2]
    rw[hb]at hr;refine fin (iI 0) (.list 1 []) (.list 1 []) (.list 4 []) K6 _ _ M0 (Kx.refl _) (start.trans ?_) hb;rw[B80 g2,A7 g1];simp only[I6];rcases g2 with g | g | g | g<;>simp[g]<;>rfl
   by_cases g3:e.E8=6
   ·have hb:U0 (N9 f) w0 e A8 l=(J4 (N9 f) (J4 (N9 f) w0 (e.kd 0) A8 l).1 (e.kd 1) A8 l).1.made 7 (J4 (N9 f) w0 (e.kd 0) A8 l).2 (J4 (N9 f) (J4 (N9 f) w0 (e.kd 0) A8 l).1 (e.kd 1) A8 l).2:=by unfold U0;rw[A7 g1,A7 g2,C8 g3]
    rw[hb]at hr;rw[A7 g1,A7 (by omega),A7 (by omega),A7 (by omega),A7 (by omega),C8 g3]at start;have n2:e.D6.length=2:=by simp[g3,O5]at k3;omega
    obtain⟨a1,a2⟩:=U5 (w:=w0) (l:=l) (VS 0 (by omega)).good (VS 0 (by omega)).sz I0 E0;have ak:=Sa (N9 f) w0 (e.kd 0) A8 l;have Pa:=FT (l:=l) (e:=e) A M0 I0 (idx:=0) (by omega) (VS 0 (by omega)) E0 hV (by simp[w0]);generalize J4 (N9 f) w0 (e.kd 0) A8 l=a at a1 a2 ak Pa hr hb;obtain⟨b1,b2⟩:=U5 (w:=a.1) (l:=l) (VS 1 (by omega)).good (VS 1 (by omega)).sz a1.i (E0.mono a1.ext.le);have Pb:=λsg' (h':BZ true b i t p (p+1) a.1 sg')=>FT (l:=l) (e:=e) A h' a1.i (idx:=1) (by omega) (VS 1 (by omega)) (E0.mono a1.ext.le) hV (by simp[w0]at ak;omega);generalize J4 (N9 f) a.1 (e.kd 1) A8 l=q at b1 b2 Pb hr hb;have r1:=b1.ext.J7;have r2:=(Dx b1.i (k:=7) (x:=a.2) (y:=q.2) (.inl rfl) (b1.lt a2) (λ_=>b2)).1.ext.J7;obtain⟨s1,e1,m1,h1⟩:=Pa (by omega);obtain⟨s2,e2,m2,h2⟩:=Pb s1 m1 (by omega);obtain⟨s3,e3,m3,h3⟩:=Wp m2 A b1.i.ok (k:=7) (x:=a.2) (y:=q.2) (.inl rfl) (b1.lt a2) (λ_=>b2);have Ie:C9.r O6 [(.undef,.ptr t 0),(e.D9,.val),(iN 0,.val),(iN A8,.val),(.list 3 (l.map EN.D9),.val),(.undef,.ptr sg.length 0)] K6=_:=e1;have e2':C9.r O6 [(.undef,.ptr t 0),(e.D9,.val),(iN 1,.val),(iN A8,.val),(.list 3 (l.map EN.D9),.val),(.undef,.ptr sg.length 0)] s1=_:=e2;simp only[z0,z1,z7,Ie,I6,z0q,e2',e3]at start;exact fin _ _ _ _ s3 _ _ m3 ((h1.trans h2).trans (EG h3)) start hb
   by_cases g4:e.E8=7
   ·have hb:U0 (N9 f) w0 e A8 l=((w0.fresh A8).1.Y2 [(w0.fresh A8).2]).made 8 (w0.fresh A8).2 0:=by unfold U0;rw[A7 g1,A7 g2,A7 g3,C8 g4]
    rw[hb]at hr;rw[A7 g1,A7 (by omega),A7 (by omega),A7 (by omega),A7 (by omega),A7 g3,C8 g4]at start;obtain⟨v1,v2⟩:=Ab I0 lb;obtain⟨s1,e1,m1,h1⟩:=Nn M0 A I0.ok A8;generalize w0.fresh A8=v at v1 v2 e1 m1 hr hb;have t1:=Da v1 (l:=[v.2]) (by simpa using v2);obtain⟨c,u,c1,c2,m2,h2⟩:=fB m1 A [v.2];obtain⟨s3,e3,m3,h3⟩:=Wp m2 A t1.i.ok (k:=8) (x:=v.2) (y:=0) (.inr (.inl rfl)) v2 (λh=>absurd rfl h);simp only[zhq,zFq]at e3;have c1':H5 s1 sg.length=some c:=c1;simp only[z0,z8,e1,I6,z0q,O8,F8,c1',c2]at start;have e3':C9.r BK [(.undef,.ptr t 0),(iN 8,.val),(iN v.2,.val),(iN 0,.val)] (s1.set sg.length (.box (c.set 1 (.list 1 [iN v.2],.full))))=_:=e3;simp only[e3',I6,z0q]at start;exact fin _ _ _ _ s3 _ _ m3 (((EG h1).trans h2).trans (EG h3)) start hb
   by_cases g5:e.E8=8
   ·have hb:U0 (N9 f) w0 e A8 l=Ox (N9 f) w0 e A8 l:=by unfold U0;rw[A7 g1,A7 g2,A7 g3,A7 g4,C8 g5]
    rw[hb]at hr;rw[A7 g1,A7 (by omega),A7 (by omega),A7 (by omega),A7 (by omega),A7 g3,A7 g4,C8 g5]at start;have n2:e.D6.length=2:=by simp[g5,O5]at k3;omega
    obtain⟨s2,e2,m2,h2⟩:=B5A (l:=l) (e:=e) A M0 I0 n2 (VS 0 (by omega)) (VS 1 (by omega)) E0 hV rfl hr;have e2':C9.r Jr [(.undef,.ptr t 0),(e.D9,.val),(iN A8,.val),(.list 3 (l.map EN.D9),.val),(.undef,.ptr sg.length 0)] K6=_:=e2;simp only[e2',I6,z0q]at start;exact fin _ _ _ _ s2 _ _ m2 h2 start hb
   by_cases g6:e.E8=9
   ·have hb:U0 (N9 f) w0 e A8 l=(J4 (N9 f) (w0.Ae e.a A8).1 (e.kd 0) A8 (l++[⟨e.name,(w0.Ae e.a A8).2,[]⟩])).1.made 9 (w0.Ae e.a A8).2 (J4 (N9 f) (w0.Ae e.a A8).1 (e.kd 0) A8 (l++[⟨e.name,(w0.Ae e.a A8).2,[]⟩])).2:=by unfold U0;rw[A7 g1,A7 g2,A7 g3,A7 g4,A7 g5,C8 g6]
    rw[hb]at hr;have st:=(rP (by omega)).trans c20;rw[C8 (by omega)]at st;have nn:e.D6.length=1:=by simp[g6,O5]at k3;omega
    obtain⟨p1,p2⟩:=Qr I0 (A8:=A8) na.1 lb;have pk:=kD w0 e.a A8;obtain⟨s1,e1,m1,h1⟩:=zC M0 A I0.ok na.1 (by omega) Sm.a A8 (by simp[w0]);generalize w0.Ae e.a A8=q at p1 p2 pk e1 m1 hr hb;have hE1:Z6 q.1.s.l.length (l++[⟨e.name,q.2,[]⟩]):=(E0.mono p1.ext.le).app (Z6.one p2);have hV1:EV (l++[⟨e.name,q.2,[]⟩]):=hV.app EV.one;have K:=(KO 0 (by omega)).le (lev':=A8) (n':=(l++[(⟨e.name,q.2,[]⟩:EN)]).length) (by omega) (by simp);obtain⟨b1,b2⟩:=U5 (w:=q.1) (l:=l++[⟨e.name,q.2,[]⟩]) K.good K.sz p1.i hE1;have Pb:=FT (l:=l++[⟨e.name,q.2,[]⟩]) (e:=e) A m1 p1.i (idx:=0) (by omega) K hE1 hV1 (by rw[pk];simp[w0]);generalize J4 (N9 f) q.1 (e.kd 0) A8 (l++[⟨e.name,q.2,[]⟩])=a at b1 b2 Pb hr hb;have r2:=(Dx b1.i (k:=9) (x:=q.2) (y:=a.2) (.inr (.inr rfl)) (b1.lt p2) (λ_=>b2)).1.ext.J7;obtain⟨s2,e2,m2,h2⟩:=Pb (by omega);obtain⟨s3,e3,m3,h3⟩:=Wp m2 A b1.i.ok (k:=9) (x:=q.2) (y:=a.2) (.inr (.inr rfl)) (b1.lt p2) (λ_=>b2);have wl:=A68 l e.name q.2 [] (by omega) s1;have wl':C9.r Cz [(.list 3 (l.map EN.D9),.val),(.list 3 [.agg [.str e.name,iN q.2,.list 1 []]],.val)] s1=_:=wl;simp only[z0,z9,e1,I6,z0q,O8,F8,wl',e2,e3]at st;exact fin _ _ _ _ s3 _ _ m3 ((h1.trans h2).trans (EG h3)) st hb
   by_cases g7:e.E8=10
   ·have hb:U0 (N9 f) w0 e A8 l=UN (N9 f) w0 e A8 l:=by unfold U0;rw[A7 g1,A7 g2,A7 g3,A7 g4,A7 g5,A7 g6,C8 g7]
    rw[hb]at hr;have st:=(rP (by omega)).trans c20;rw[A7 (by omega),C8 (by omega)]at st;have nn:e.D6.length=2:=by simp[g7,O5]at k3;omega
    obtain⟨s2,e2,m2,h2⟩:=B7o (l:=l) (e:=e) A M0 I0 nn (VS 0 (by omega)) (VS 1 (by omega)) E0 hV rfl hr;have e2':C9.r KW [(.undef,.ptr t 0),(e.D9,.val),(iN A8,.val),(.list 3 (l.map EN.D9),.val),(.undef,.ptr p 0)] K6=_:=e2;simp only[e2',I6,z0q]at st;exact fin _ _ _ _ s2 _ _ m2 h2 st hb
   by_cases g8:e.E8=11
   ·have hb:U0 (N9 f) w0 e A8 l=VD (N9 f) w0 e A8 l:=by unfold U0;rw[A7 g1,A7 g2,A7 g3,A7 g4,A7 g5,A7 g6,A7 g7,C8 g8]
    rw[hb]at hr;have st:=(rP (by omega)).trans c20;rw[A7 (by omega),A7 (by omega),C8 (by omega)]at st;have nn:e.D6.length=2:=by simp[g8,O5]at k3;omega
    obtain⟨s2,e2,m2,h2⟩:=B7p (l:=l) (e:=e) A M0 I0 nn Uy (BQ.kid (Ex.Cr (by omega))) (by omega) Sm.a ((KO 0 (by omega)).le (zpq _) (by omega)) ((KO 1 (by omega)).le (by omega) (by omega)) E0 hV rfl hr;have e2':C9.r KX [(.undef,.ptr t 0),(e.D9,.val),(iN A8,.val),(.list 3 (l.map EN.D9),.val),(.undef,.ptr p 0)] K6=_:=e2;simp only[e2',I6,z0q]at st;exact fin _ _ _ _ s2 _ _ m2 h2 st hb
   by_cases g9:e.E8=12
   ·have hb:U0 (N9 f) w0 e A8 l=VM (N9 f) w0 e A8 l:=by unfold U0;rw[A7 g1,A7 g2,A7 g3,A7 g4,A7 g5,A7 g6,A7 g7,A7 g8,C8 g9]
    rw[hb]at hr;have st:=(rP (by omega)).trans c20;rw[A7 (by omega),A7 (by omega),A7 (by omega),C8 (by omega)]at st;have nn:e.D6.length=2:=by simp[g9,O5]at k3;omega
    obtain⟨s2,e2,m2,h2⟩:=B7s (l:=l) (e:=e) A M0 I0 nn Uy (by omega) Sm.a (by omega) Sm.b (KO 0 (by omega)) ((KO 1 (by omega)).le (by omega) (by omega)) E0 hV rfl rfl hr;have e2':C9.r KY [(.undef,.ptr t 0),(e.D9,.val),(iN A8,.val),(.list 3 (l.map EN.D9),.val),(.undef,.ptr p 0)] K6=_:=e2;simp only[e2',I6,z0q]at st;exact fin _ _ _ _ s2 _ _ m2 h2 st hb
   by_cases g10:e.E8=13
   ·have hb:U0 (N9 f) w0 e A8 l=Ow (N9 f) w0 e A8 l:=by unfold U0;rw[A7 g1,A7 g2,A7 g3,A7 g4,A7 g5,A7 g6,A7 g7,A7 g8,A7 g9,C8 g10]
    rw[hb]at hr;have st:=(rP (by omega)).trans c20;rw[A7 (by omega),A7 (by omega),A7 (by omega),A7 (by omega),C8 (by omega)]at st;have nn:e.D6.length=3:=by simp[g10,O5]at k3;omega
    obtain⟨s2,e2,m2,h2⟩:=B5z (l:=l) (e:=e) A M0 I0 nn (VS 0 (by omega)) (VS 1 (by omega)) (VS 2 (by omega)) E0 hV rfl hr;have e2':C9.r Jq [(.undef,.ptr t 0),(e.D9,.val),(iN A8,.val),(.list 3 (l.map EN.D9),.val),(.undef,.ptr p 0)] K6=_:=e2;simp only[e2',I6,z0q]at st;exact fin _ _ _ _ s2 _ _ m2 h2 st hb
   by_cases g11:e.E8=14
   ·have hb:U0 (N9 f) w0 e A8 l=LD (N9 f) w0 e A8 l:=by unfold U0;rw[A7 g1,A7 g2,A7 g3,A7 g4,A7 g5,A7 g6,A7 g7,A7 g8,A7 g9,A7 g10,C8 g11]
    rw[hb]at hr;have st:=(rP (by omega)).trans c20;rw[A7 (by omega),A7 (by omega),A7 (by omega),A7 (by omega),A7 (by omega),C8 (by omega)]at st;have nn:e.D6.length=e.J8.length+1:=by simp[g11,O5]at k3;omega
    obtain⟨s2,e2,m2,h2⟩:=B3S (l:=l) (e:=e) A M0 I0 nn (VS 0 (by omega)) (λx hx=>by
     obtain⟨a,c,d,m,-⟩:=KK (x+1) (by omega);have pm:=B3s nn hx;exact⟨a,c,by omega,by omega⟩) (λq hq=>⟨Ex.A4s Uy hq,F5.yE (Sm.pat q hq),(Sm.pat q hq).txt,by
     have h1:=F5.Tc q;have h2:=JB (zqq (f:=F5.Y0) hq);have h3:=e.uB;omega⟩) (by omega) E0 hV (by omega) rfl hr
    have e2':C9.r Ih [(.undef,.ptr t 0),(e.D9,.val),(iN A8,.val),(.list 3 (l.map EN.D9),.val),(.undef,.ptr p 0)] K6=_:=e2;simp only[e2',I6,z0q]at st;exact fin _ _ _ _ s2 _ _ m2 h2 st hb
   by_cases g12:e.E8=15
   ·have hb:U0 (N9 f) w0 e A8 l=((((J4 (N9 f) w0 (e.kd 0) A8 l).1.put e.a).1).agree (J4 (N9 f) w0 (e.kd 0) A8 l).2 ((J4 (N9 f) w0 (e.kd 0) A8 l).1.put e.a).2 (e.kd 0),((J4 (N9 f) w0 (e.kd 0) A8 l).1.put e.a).2):=by unfold U0;rw[A7 g1,A7 g2,A7 g3,A7 g4,A7 g5,A7 g6,A7 g7,A7 g8,A7 g9,A7 g10,A7 g11,C8 g12]
    rw[hb]at hr;have st:=(rP (by omega)).trans c20;rw[A7 (by omega),A7 (by omega),A7 (by omega),A7 (by omega),A7 (by omega),A7 (by omega),C8 (by omega)]at st;have nn:e.D6.length=1:=by simp[g12,O5]at k3;omega
    obtain⟨a1,a2⟩:=U5 (w:=w0) (l:=l) (VS 0 (by omega)).good (VS 0 (by omega)).sz I0 E0;have Pa:=FT (l:=l) (e:=e) A M0 I0 (idx:=0) (by omega) (VS 0 (by omega)) E0 hV (by simp[w0]);generalize J4 (N9 f) w0 (e.kd 0) A8 l=a at a1 a2 Pa hr hb;obtain⟨n1,n2⟩:=QM a1.i (na.2 g12);have Pn:=λsg' (h':BZ true b i t p (p+1) a.1 sg')=>A2c h' A a1.i.ok (na.2 g12) (by omega) Sm.a;generalize a.1.put e.a=n at n1 n2 Pn hr hb;have r1:=n1.ext.J7;have r2:=(U4 n1.i (a:=a.2) (b:=n.2) (n1.lt a2) n2 (e.kd 0)).ext.J7;have hr:(n.1.agree a.2 n.2 (e.kd 0)).s.J7+10<2 ^ 62:=hr;obtain⟨s1,e1,m1,h1⟩:=Pa (by omega);obtain⟨s2,e2,m2,h2⟩:=Pn s1 m1;obtain⟨s3,e3,m3,h3⟩:=DJ m2 A n1.i.ok (x:=a.2) (y:=n.2) (n1.lt a2) n2 (e.kd 0) hr;simp only[z0,Uz (show 0<e.D6.length by omega),e1,I6,z0q,N_,e2,e3]at st;exact fin _ _ _ _ s3 _ _ m3 (h1.trans ((EG h2).trans (EG h3))) st hb
   have hb:U0 (N9 f) w0 e A8 l=(LZ (N9 f) A8 l (if e.op=7 then 2 else 0) e.D6 w0,if e.op=5\/e.op=6\/e.op=7 then 1 else 0):=by unfold U0;rw[A7 g1,A7 g2,A7 g3,A7 g4,A7 g5,A7 g6,A7 g7,A7 g8,A7 g9,A7 g10,A7 g11,A7 g12]
   rw[hb]at hr;have k16:e.E8=16:=by omega
   have st:=(rP (by omega)).trans c20;rw[A7 (by omega),A7 (by omega),A7 (by omega),A7 (by omega),A7 (by omega),A7 (by omega),A7 (by omega),C8 (by omega)]at st;obtain⟨s2,e2,m2,h2⟩:=B8b (l:=l) (e:=e) A M0 I0 (λk hk=>by obtain⟨m,hm,rfl⟩:=zdq.1 hk;rw[Ex.kF hm];exact VS m hm) E0 hV rfl (by omega) hr
   have e2':C9.r Lm [(.undef,.ptr t 0),(e.D9,.val),(iN A8,.val),(.list 3 (l.map EN.D9),.val),(.undef,.ptr p 0)] K6=_:=e2;simp only[e2',I6,z0q]at st;exact fin _ _ _ _ s2 _ _ m2 h2 st hb
end Go.Su

/-
 Inference in memory: what is read.
-/
namespace Go.Su
set_option linter.defProp false
section
variable {b i t:Nat}
def KE.rd{w:W}{sg:List E5}(h:KE b i t w sg)(ok:w.s.Ok){n:Nat}(hn:n<w.s.l.length):
 ∃s1 s2,C9.r Gw [(.undef,.ptr b 0),(iN n,.val)] sg=some ([(w.s.read n).2.1.D9,iN (w.s.read n).2.2],s1)/\C9.r R8 [(.undef,.ptr t 0),(iN (w.s.read n).2.2,.val),(P9.D9,.val)] s1=some ([],s2)/\KE b i t (w.rd n) s2/\Kx [b,i,t] sg s2:=by
 obtain⟨s1,e1,a1,k1⟩:=B5y h.st ok hn;obtain⟨s2,e2,a2,k2⟩:=bV (h.kp k1 a1) (w.s.read n).2.2 P9;exact⟨s1,s2,e1,e2,a2,k1.k3.trans (k2.more (by intro x hx;simp only[zsq,zoq,or_false]at hx ⊢;omega))⟩
def B6J(l:List DD):O3 (.list 4 (l.map DD.D9))=some (iN l.length):=by simp[iN]
def B6E{l:List DD}{j:Nat}(h:j<l.length):M9 4 (.list 4 (l.map DD.D9)) (iN j)=some l[j].D9:=V5 h
def B38(n:Nat)(ts vs:List Nat)(ks:List DD):A9 0 (DD.mk n ts vs ks).D9=iN n/\A9 1 (DD.mk n ts vs ks).D9=.list 1 (ts.map iN)/\A9 2 (DD.mk n ts vs ks).D9=.list 1 (vs.map iN)/\A9 3 (DD.mk n ts vs ks).D9=.list 4 (ks.map DD.D9):=by rw[DD.D9,A1k];exact⟨rfl,rfl,rfl,rfl⟩
def fI(y:Ty):DV.agg [A9 0 y.D9,A9 1 y.D9,A9 2 y.D9]=y.D9:=by simp[Ty.BD,Ty.ag]
mutual
theorem A6Z:∀(d:DD)(w:W)(sg:List E5),KE b i t w sg->w.s.Ok->DD.lt w.s.l.length d->d.cnt<=2 ^ 30->
 ∃y sg',C9.r Ew [(.undef,.ptr t 0),(d.D9,.val)] sg=some ([Ty.D9 y],sg')/\KE b i t (V7 d w) sg'/\Kx [b,i,t] sg sg'/\(w.err=0->∀n ts vs ks,d=.mk n ts vs ks->y=(w.s.read n).2.1)
 |.mk n ts vs ks,w,sg,h,ok,hl,hc=>by
   have start:=(gV t (DD.mk n ts vs ks).D9 sg).trans (jH _ _ _ _);obtain⟨p0,p1,p2,p3⟩:=B38 n ts vs ks;obtain⟨d1,d2⟩:=uq (.mk n ts vs ks);rw[DD.lt]at hl;obtain⟨s1,s2,e1,e2,t2,k2⟩:=h.rd ok hl.1;simp only[d2,F8,JJ h,I6,z0q,U1,F3,h.box,JZ,p0,p3,e1,Oy,Oz,BN,<- TY,e2,B6J]at start;rw[V7];by_cases g:w.err=0
   ·rw[A7 (λh=>h g)];simp only[g,K3,zbq,z1q,G8]at start;obtain⟨a1,a2,a3,a4⟩:=ZW ok n;rw[DD.cnt]at hc;obtain⟨bS,e3,t3,k3⟩:=A3l ks (w.s.read n).2.1 ks (w.rd n) s2 0 (by rw[z6q]) t2 a1 (by rw[a2];exact hl.2.2.2) (by omega) (by have:=lI ks;omega) (iI 0) (iI 0) (.list 3 []);exact⟨(w.s.read n).2.1,bS,start.trans e3,t3,k2.trans k3,λ_ n' ts' vs' ks' h=>by cases h;rfl⟩
   ·rw[C8 g];simp only[g,R5,ziq,F6]at start;exact⟨zTy,sg,by rw[start,A8Y],h,Kx.refl _,λh=>absurd h g⟩
theorem A3l:∀(qs:List DD)(y:Ty)(ks:List DD)(w:W)(sg:List E5)(j:Nat),qs=ks.drop j->KE b i t w sg->w.s.Ok->DD.Yu w.s.l.length qs->DD.EC qs<=2 ^ 30->ks.length<2 ^ 31->∀z0 z1 z2:DV,
 ∃sg',Fe C9 t (.list 4 (ks.map DD.D9)) (iN ks.length) (iN j) z0 z1 z2 y.D9 sg=some ([y.D9],sg')/\KE b i t (Ei qs w) sg'/\Kx [b,i,t] sg sg'
 |[],y,ks,w,sg,j,hq,h,ok,hl,hc,HV,z0,z1,z2=>by
   have hj:ks.length<=j:=by have:=congrArg List.length hq;simp only[z5q,zaq]at this;omega
   rw[Ei,Po];simp only[Aq,I6,F3,I9];rw[A7 (by omega)];simp only[fI];exact⟨sg,rfl,h,Kx.refl _⟩
 |k::qs,y,ks,w,sg,j,hq,h,ok,hl,hc,HV,z0,z1,z2=>by
   have hj:j<ks.length:=by have:=congrArg List.length hq;simp only[z9q,zaq]at this;omega
   rw[z2q hj]at hq;simp only[List.cons.injEq]at hq;obtain⟨hk,hqs⟩:=hq;rw[DD.Yu]at hl;rw[DD.EC]at hc;obtain⟨y',s1,e1,t1,k1,-⟩:=A6Z k w sg h ok hl.1 (by omega);obtain⟨a1,-⟩:=NA k w ok;have a2:(V7 k w).s.l.length=w.s.l.length:=by rw[a1.l]
   obtain⟨s2,e2,t2,k2⟩:=A3l qs y ks (V7 k w) s1 (j+1) hqs t1 a1.ok (by rw[a2];exact hl.2) (by omega) HV z0 z1 z2;refine⟨s2,?_,by rw[Ei];exact t2,k1.trans k2⟩;rw[Po];simp only[Aq,I6,F3,hj,K3,F6,B6E hj,<- hk,(uq k).1,e1,addN (show j<2 ^ 62 by omega)]
   exact e2
end
theorem encI(l:List Nat):DV.list 1 (l.map iN)=Q0 (l.map Int.ofNat):=by
 simp only[Q0,List.map_map]
 try rfl
def B2y{o:List Ty}{y:Ty}(h:o.length<2 ^ 31):EP 3 (.list 3 (o.map Ty.D9)) (.list 3 [y.D9])=some (.list 3 ((o++[y]).map Ty.D9)):=by rw[Kn (by simp[R9];omega)];simp
def B5U{o:List J6}{y:J6}(h:o.length<2 ^ 31):EP 3 (.list 3 (o.map J6.D9)) (.list 3 [y.D9])=some (.list 3 ((o++[y]).map J6.D9)):=by rw[Kn (by simp[R9];omega)];simp
def B8n(b i t:Nat)(sg:List E5)(r:Option (List DV×List E5))(w:W)(d:J6):Prop:=∃y sg',r=some ([J6.D9 y],sg')/\KE b i t w sg'/\Kx [b,i,t] sg sg'/\(w.err=0->y=d)
theorem B0b{d:DV}{vs:List Nat}{ts:List Nat}(z0 z1 z2:DV):∀(qs:List Nat)(j:Nat)(o:List Ty)(w:W)(sg:List E5),qs=ts.drop j->KE b i t w sg->w.s.Ok->(∀x∈qs,x<w.s.l.length)->o.length<=w.s.cnt->o.length=j->
 (∃y sg',Ci C9 t (.list 1 (ts.map iN)) (iN ts.length) (iN j) d z0 z1 z2 (.list 3 (o.map Ty.D9)) (.list 1 (vs.map iN)) sg=some ([J6.D9 y],sg')/\KE b i t (X9 qs w).1 sg'/\Kx [b,i,t] sg sg'/\(X9 qs w).1.err≠0) \/
 ∃sg',Ci C9 t (.list 1 (ts.map iN)) (iN ts.length) (iN j) d z0 z1 z2 (.list 3 (o.map Ty.D9)) (.list 1 (vs.map iN)) sg=Ci C9 t (.list 1 (ts.map iN)) (iN ts.length) (iN ts.length) d z0 z1 z2 (.list 3 ((o++(X9 qs w).2).map Ty.D9)) (.list 1 (vs.map iN)) sg'/\KE b i t (X9 qs w).1 sg'/\Kx [b,i,t] sg sg':=by
 intro qs;induction qs with
 |nil=>
   intro j o w sg hq h ok hl ho hoj;right;have hj:ts.length<=j:=by have:=congrArg List.length hq;simp only[z5q,zaq]at this;omega
   refine⟨sg,?_,h,Kx.refl _⟩;by_cases e:j=ts.length
   ·rw[e];simp[X9]
   ·rw[Df,Df];simp only[Aq,I6,F3,I9];rw[A7 (by omega),A7 (by omega)];simp[X9]
 |cons n qs ih=>
   intro j o w sg hq h ok hl ho hoj;have hj:j<ts.length:=by have:=congrArg List.length hq;simp only[z9q,zaq]at this;omega
   rw[z2q hj]at hq;simp only[List.cons.injEq]at hq;obtain⟨hn,hqs⟩:=hq;have start:=Df C9 t (.list 1 (ts.map iN)) (iN ts.length) (iN j) d z0 z1 z2 (.list 3 (o.map Ty.D9)) (.list 1 (vs.map iN)) sg;obtain⟨s1,s2,e1,e2,t2,k2⟩:=h.rd ok (hl n (zgq ..));have oc:=ok.cm;have om:=ok.mm;simp only[Aq,I6,F3,hj,K3,F6,IB hj,<- hn,Bd,F8,JJ h,z0q,U1,h.box,JZ,e1,Oy,Oz,BN,<- TY,e2,fI,B2y (show o.length<2 ^ 31 by omega),addN (show j<2 ^ 62 by omega)]at start;rw[X9];by_cases g:w.err=0
   ·rw[A7 (λh=>h g)];simp only[g,K3,zbq,z1q,G8]at start;obtain⟨a1,a2,a3,a4⟩:=ZW ok n;have e:(({ w with s:=(w.s.read n).1 }:W).fails (w.s.read n).2.2 P9)=w.rd n:=rfl;rw[e];by_cases ge:(w.rd n).err=0
    ·obtain⟨-,-,a5⟩:=a4 ge;rcases ih (j+1) (o++[(w.s.read n).2.1]) (w.rd n) s2 hqs t2 a1 (λx hx=>by rw[a2];exact hl x (zcq _ hx)) (by simp only[zkq,z9q,z5q];omega) (by simp only[zkq,z9q,z5q];omega)with⟨y,sg',x1,x2,x3,x4⟩ | ⟨sg',x1,x2,x3⟩
     ·exact .inl ⟨y,sg',start.trans x1,x2,k2.trans x3,x4⟩
     ·exact .inr ⟨sg',by rw[start,x1];simp,x2,k2.trans x3⟩
    ·-- something went wrong: the rest does nothing
     cases qs with
     |nil=>
       right;have P8:j+1=ts.length:=by have:=congrArg List.length hqs;simp only[z5q,zaq]at this;omega
       exact⟨s2,by rw[start,P8];simp[X9],t2,k2⟩
     |cons m qs=>
       left;have FE:j+1<ts.length:=by have:=congrArg List.length hqs;simp only[z9q,zaq]at this;omega
       have st2:=Df C9 t (.list 1 (ts.map iN)) (iN ts.length) (iN (j+1)) d z0 z1 z2 (.list 3 ((o++[(w.s.read n).2.1]).map Ty.D9)) (.list 1 (vs.map iN)) s2;simp only[Aq,I6,F3,FE,K3,F6,IB FE,Bd,F8,JJ t2,z0q,U1,ge,R5,ziq]at st2;have rt:X9 (m::qs) (w.rd n)=(w.rd n,[]):=by rw[X9,C8 ge]
       refine⟨.mk (o++[(w.s.read n).2.1]) (vs.map Int.ofNat) [],s2,?_,by rw[rt];exact t2,k2,by rw[rt];exact ge⟩;rw[start,st2,J6.O4,encI];rfl
   ·rw[C8 g];simp only[g,R5,ziq,F6]at start;left;refine⟨.mk o (vs.map Int.ofNat) [],sg,?_,h,Kx.refl _,g⟩;rw[start,J6.O4,encI];rfl
def uI:∀(ks:List DD)(w:W),w.err≠0->True/\(Af ks w).1=w/\True
 |[],w,_=>⟨trivial,rfl,trivial⟩
 |k::ks,w,h=>by rw[Af,C8 h];exact⟨trivial,rfl,trivial⟩
mutual
theorem A3d:∀(d:DD)(w:W),w.s.Ok->Yd w (X3 d w).1/\True/\True
 |.mk m ts vs ks,w,ok=>by rw[X3];obtain⟨a1,-⟩:=Wh ts w ok;exact⟨a1.trans (A3b ks _ a1.ok),trivial,trivial⟩
theorem A3b:∀(ks:List DD)(w:W),w.s.Ok->Yd w (Af ks w).1
 |[],w,ok=>⟨ok,rfl,zpq _⟩
 |k::ks,w,ok=>by
   rw[Af];split
   ·exact⟨ok,rfl,zpq _⟩
   ·obtain⟨a1,-⟩:=A3d k w ok;exact a1.trans (A3b ks _ a1.ok)
end
def A4k(y:J6):DV.agg [A9 0 y.D9,A9 1 y.D9,A9 2 y.D9]=y.D9:=by simp[J6.BD,J6.ag]
mutual
theorem A8N:∀(d:DD)(w:W)(sg:List E5),KE b i t w sg->w.s.Ok->DD.lt w.s.l.length d->d.cnt<=2 ^ 30->B8n b i t sg (C9.r Fu [(.undef,.ptr t 0),(d.D9,.val)] sg) (X3 d w).1 (X3 d w).2
 |.mk n ts vs ks,w,sg,h,ok,hl,hc=>by
   have start:=(je t (DD.mk n ts vs ks).D9 sg).trans (lY _ _ _ _);obtain⟨p0,p1,p2,p3⟩:=B38 n ts vs ks;obtain⟨d1,d2⟩:=uq (.mk n ts vs ks);rw[DD.lt]at hl;rw[DD.cnt]at hc;have il:J3 (DV.list 1 (vs.map iN))=true:=rfl;simp only[d2,F8,p1,p2,il,Sv,I6]at start;obtain⟨a1,a2⟩:=Wh ts w ok;rw[X3];rcases B0b (b:=b) (i:=i) (t:=t) (d:=(DD.mk n ts vs ks).D9) (vs:=vs) (ts:=ts) (.list 3 []) (.list 1 []) (.list 3 []) ts 0 [] w sg rfl h ok hl.2.1 (by simp) rfl with⟨y,s1,e1,t1,k1,g⟩ | ⟨s1,e1,t1,k1⟩
   ·obtain⟨c1,c0,c2⟩:=uI ks (X9 ts w).1 g;refine⟨y,s1,start.trans e1,by simp only;rw[c0];exact t1,k1,λh=>?_⟩;simp only at h;rw[c0]at h;exact absurd h g
   ·rw[List.nil_append]at e1;have st2:=Df C9 t (.list 1 (ts.map iN)) (iN ts.length) (iN ts.length) (DD.mk n ts vs ks).D9 (.list 3 []) (.list 1 []) (.list 3 []) (.list 3 ((X9 ts w).2.map Ty.D9)) (.list 1 (vs.map iN)) s1;simp only[Aq,zeq,R5,I6,F3,z1q,G8,p3,B6J]at st2;have GH:=lI ks;obtain⟨y,s2,e2,t2,k2,x2⟩:=A65 ks (X9 ts w).2 vs ks [] (X9 ts w).1 s1 0 rfl t1 a1.ok (by rw[a1.l];exact hl.2.2.2) (by omega) (by omega) rfl (.list 3 []) (.list 1 []) (.list 3 []);exact⟨y,s2,start.trans (e1.trans (st2.trans e2)),t2,k1.trans k2,λh=>by rw[x2 h];simp⟩
theorem A65:∀(qs:List DD)(tys:List Ty)(vs:List Nat)(ks:List DD)(o:List J6)(w:W)(sg:List E5)(j:Nat),qs=ks.drop j->KE b i t w sg->w.s.Ok->DD.Yu w.s.l.length qs->DD.EC qs<=2 ^ 30->ks.length<2 ^ 31->o.length=j->∀z0 z1 z2:DV,
 ∃y sg',Ff C9 t (.list 4 (ks.map DD.D9)) (iN ks.length) (iN j) z0 z1 z2 (.list 3 (tys.map Ty.D9)) (.list 1 (vs.map iN)) (.list 3 (o.map J6.D9)) sg=some ([J6.D9 y],sg')/\KE b i t (Af qs w).1 sg'/\Kx [b,i,t] sg sg'/\((Af qs w).1.err=0->y=.mk tys (vs.map Int.ofNat) (o++(Af qs w).2))
 |[],tys,vs,ks,o,w,sg,j,hq,h,ok,hl,hc,HV,hoj,z0,z1,z2=>by
   have hj:ks.length<=j:=by have:=congrArg List.length hq;simp only[z5q,zaq]at this;omega
   rw[Af,Pq];simp only[Aq,I6,F3,I9];rw[A7 (by omega)];exact⟨.mk tys (vs.map Int.ofNat) o,sg,by rw[J6.O4,encI];rfl,h,Kx.refl _,λ_=>by simp⟩
 |k::qs,tys,vs,ks,o,w,sg,j,hq,h,ok,hl,hc,HV,hoj,z0,z1,z2=>by
   have hj:j<ks.length:=by have:=congrArg List.length hq;simp only[z9q,zaq]at this;omega
   rw[z2q hj]at hq;simp only[List.cons.injEq]at hq;obtain⟨hk,hqs⟩:=hq;rw[DD.Yu]at hl;rw[DD.EC]at hc;have start:=Pq C9 t (.list 4 (ks.map DD.D9)) (iN ks.length) (iN j) z0 z1 z2 (.list 3 (tys.map Ty.D9)) (.list 1 (vs.map iN)) (.list 3 (o.map J6.D9)) sg;simp only[Aq,I6,F3,hj,K3,F6,B6E hj,<- hk,JJ h,z0q,U1,(uq k).1]at start;rw[Af];by_cases g:w.err=0
   ·rw[A7 (λh=>h g)];simp only[g,K3,zbq,z1q,G8]at start;obtain⟨y,s1,e1,t1,k1,x1⟩:=A8N k w sg h ok hl.1 (by omega);obtain⟨a1,-,-⟩:=A3d k w ok;have a2:(X3 k w).1.s.l.length=w.s.l.length:=by rw[a1.l]
    obtain⟨y2,s2,e2,t2,k2,x2⟩:=A65 qs tys vs ks (o++[y]) (X3 k w).1 s1 (j+1) hqs t1 a1.ok (by rw[a2];exact hl.2) (by omega) HV (by simp[hoj]) z0 z1 z2;refine⟨y2,s2,?_,t2,k1.trans k2,λh=>?_⟩
    ·simp only[e1,I6,z0q,Jj,F8,B5U (show o.length<2 ^ 31 by omega),addN (show j<2 ^ 62 by omega)]at start;exact start.trans e2
    ·have h':(Af qs (X3 k w).1).1.err=0:=h;have e0:(X3 k w).1.err=0:=by
      by_cases e0:(X3 k w).1.err=0
      ·exact e0
      ·rw[(uI qs _ e0).2.1]at h';exact h'
     rw[x2 h',x1 e0];simp
   ·rw[C8 g];simp only[g,R5,ziq,F6]at start;exact⟨.mk tys (vs.map Int.ofNat) o,sg,by rw[start,J6.O4,encI];rfl,h,Kx.refl _,λh=>absurd h g⟩
end
end
end Go.Su

/-
 Inference in memory: variables get their numbers; a run.
-/
namespace Go.Su
set_option linter.defProp false
structure Ga(es:List (DV×DV))(N:List Int):Prop where
 get:∀v:Int,Y1 es (iI v)=if v∈N then some (iI (N.idxOf v:Nat))else none
 len:es.length=N.length
def A5R:∀(es:List (DV×DV))(k v:DV),Y1 es k=none->(Bt es k v).length=es.length+1
 |[],k,v,_=>rfl
 |e::es,k,v,h=>by
   unfold Y1 at h;rw[List.find?_cons]at h;rw[Bt];by_cases g:FH k e.1=true
   ·rw[g]at h;simp at h
   ·have g':FH k e.1=false:=by simpa using g
    rw[g']at h;rw[A7 g,z9q,A5R es k v (by unfold Y1;exact h),z9q]
def A51(N:List Int)(v:Int):List Int:=if v∈N then N else N++[v]
theorem B1D(v:Int)(vs N:List Int):nI (v::vs) N=nI vs (A51 N v):=rfl
variable {es:List (DV×DV)}{N:List Int}
def Ga.met(h:Ga es N){v:Int}(hv:v∉N):Ga (Bt es (iI v) (iI (N.length:Nat))) (A51 N v):=by
 have e:A51 N v=N++[v]:=A7 hv;have g:=h.get v;rw[A7 hv]at g;refine⟨λc=>?_,by rw[A5R _ _ _ g,h.len,e];simp⟩;rw[tq,e];by_cases hc:v=c
 ·subst hc;rw[C8 rfl,C8 (by simp),zDq,A7 hv];simp
 ·rw[A7 hc,h.get c];by_cases hm:c∈N
  ·rw[C8 hm,C8 (by simp[hm]),zDq,C8 hm]
  ·rw[A7 hm,A7 (by simp[hm,Ne.symm hc])]
variable {m:Nat}{sg:List E5}
def B5F(hm:S9 sg m=some (false,es))(h:Ga es N)(v:Int):∃es',C9.r DN [(.undef,.map m),(iI v,.val)] sg=some ([],sg.set m (.map false es'))/\Ga es' (A51 N v):=by
 have start:=(gM m (iI v) sg).trans (jB _ _ _ _);have ik:AB false (iI v)=true:=rfl;have ml:A0H sg (.map m)=some N.length:=by show(ob (S9 sg m) λp=>some p.2.length)=_;rw[hm,I6,h.len]
 simp only[ik,zEq,F8,hm,I6,beq_self_eq_true,h.get,U1,F3,ml,A1d]at start;by_cases g:v∈N
 ·simp only[g,F6,Option.isSome_some,zbq,z1q,G8]at start;exact⟨es,by rw[start,Na hm],by unfold A51;rw[C8 g];exact h⟩
 ·simp only[g,G8,Option.isSome_none,ziq,F6,Bool.and_self,F8]at start;exact⟨_,start,h.met g⟩
def Ta(h:S9 sg m=some (false,es)):m<sg.length:=(List.getElem?_eq_some_iff.1 (bT h)).1
def A1T{X:Type}{P:Nat->List E5->Option X}{vs:List Int}(step:∀(j:Nat)(h:j<vs.length)(sg:List E5)(sg':List E5),C9.r DN [(.undef,.map m),(iI vs[j],.val)] sg=some ([],sg')->P j sg=P (j+1) sg'):∀(q j:Nat)(sg:List E5)(es:List (DV×DV))(N:List Int),j+q=vs.length->S9 sg m=some (false,es)->Ga es N->
 ∃es',P j sg=P vs.length (sg.set m (.map false es'))/\Ga es' (nI (vs.drop j) N):=by
 intro q;induction q with
 |zero=>intro j sg es N hj hm h;rw[z4q (by omega),show j=vs.length by omega];exact⟨es,by rw[Na hm],h⟩
 |succ q ih=>
   intro j sg es N hj hm h;have P8:j<vs.length:=by omega
   obtain⟨es1,e1,h1⟩:=B5F hm h vs[j];obtain⟨es2,e2,h2⟩:=ih (j+1) _ es1 _ (by omega) (EK (Ta hm) es1) h1;rw[zrq]at e2;exact⟨es2,(step j P8 sg _ e1).trans e2,by rw[z2q P8,B1D];exact h2⟩
def A9K{l:List Int}{j:Nat}(h:j<l.length):M9 1 (Q0 l) (iN j)=some (iI l[j]):=V5 h
def A9S(l:List Int):O3 (Q0 l)=some (iN l.length):=B04 l
def B4e{l:List J6}{j:Nat}(h:j<l.length):M9 3 (.list 3 (l.map J6.D9)) (iN j)=some l[j].D9:=V5 h
def B4h(l:List J6):O3 (.list 3 (l.map J6.D9))=some (iN l.length):=by simp[iN]
def kg{t:Ty}(h:t.size<=65536):t.thin=true/\t.Dk<=R9/\t.D6.length<=65536/\t.vars.length<=65536:=by refine⟨Ty.Hm (by unfold R9;omega),z8q t.iJ (by unfold R9;omega),?_,by have:=t.B0A [];simp only[z5q]at this;unfold Ty.vars;omega⟩;have:=t.size_eq;have:=A8t (l:=t.D6) (f:=Ty.size) Ty.nZ;omega
def B2l{l1 l2 l3:DV}{b3:DV}{t:Ty}(ht:t.size<=65536)(hm:S9 sg m=some (false,es))(h:Ga es N):
 ∃es',Z8 C9 m l1 l2 l3 (Q0 t.vars) (iN t.vars.length) (iN 0) b3 sg=Z8 C9 m l1 l2 l3 (Q0 t.vars) (iN t.vars.length) (iN t.vars.length) b3 (sg.set m (.map false es'))/\Ga es' (nI t.vars N):=by
 obtain⟨-,-,-,hv⟩:=kg ht;have:=A1T (m:=m) (P:=λj sg=>Z8 C9 m l1 l2 l3 (Q0 t.vars) (iN t.vars.length) (iN j) b3 sg) (vs:=t.vars) (λj hj sg sg' e=>by show Z8 C9 m l1 l2 l3 (Q0 t.vars) (iN t.vars.length) (iN j) b3 sg=Z8 C9 m l1 l2 l3 (Q0 t.vars) (iN t.vars.length) (iN (j+1)) b3 sg';rw[PD];simp only[Aq,I6,F3,hj,K3,F6,A9K hj,ZM,F8,e,addN (show j<2 ^ 62 by omega)]) t.vars.length 0 sg es N (by omega) hm h
 rw[z6q]at this;exact this
def B2e(d:J6):Sj d->∀(sg:List E5)(es:List (DV×DV))(N:List Int),S9 sg m=some (false,es)->Ga es N->
 ∃es',C9.r Ht [(.undef,.map m),(d.D9,.val)] sg=some ([],sg.set m (.map false es'))/\Ga es' (A52 d N):=by
 induction d using J6.ind with
 |h d ih=>
   intro hd sg es N hm h;obtain⟨d1,d2,d3,d4,d5⟩:(∀t∈d.types,t.size<=65536)/\d.types.length<=70000/\d.vars.length<2 ^ 29/\d.D6.length<=70000/\∀k∈d.D6,Sj k:=by cases hd with | mk _ a1 a2 a3 a4 a5=>exact⟨a1,a2,a3,a4,a5⟩
   have start:=(cO m d.D9 sg).trans (gH _ _ _ _);simp only[Jj,F8,J6.CJ,A1Q,I6]at start;have ty:∀(q j:Nat)(sg:List E5)(es:List (DV×DV))(N:List Int),j+q=d.types.length->S9 sg m=some (false,es)->Ga es N->
    ∃es',Bw C9 m (.list 3 (d.types.map Ty.D9)) (iN d.types.length) (iN j) d.D9 sg=Bw C9 m (.list 3 (d.types.map Ty.D9)) (iN d.types.length) (iN d.types.length) d.D9 (sg.set m (.map false es'))/\Ga es' ((d.types.drop j).foldl (λN t=>nI t.vars N) N):=by
    intro q;induction q with
    |zero=>intro j sg es N hj hm h;rw[z4q (by omega),show j=d.types.length by omega];exact⟨es,by rw[Na hm],h⟩
    |succ q ihq=>
      intro j sg es N hj hm h;have P8:j<d.types.length:=by omega
      have hz:=d1 _ (z3q P8);obtain⟨h1,h2,-,h4⟩:=kg hz;obtain⟨es1,e1,g1⟩:=B2l (m:=m) (l1:=.list 3 (d.types.map Ty.D9)) (l2:=iN d.types.length) (l3:=iN j) (b3:=d.D9) hz hm h;obtain⟨es2,e2,g2⟩:=ihq (j+1) _ es1 _ (by omega) (EK (Ta hm) es1) g1;rw[zrq]at e2;refine⟨es2,?_,by rw[z2q P8,List.foldl_cons];exact g2⟩;rw[O_];simp only[Aq,I6,F3,P8,K3,F6,A5K P8,fI,xf _ h1 h2,A9S];have Ie:Z8 C9 m (.list 3 (d.types.map Ty.D9)) (iN d.types.length) (iN j) (Q0 d.types[j].vars) (iN d.types[j].vars.length) (iI 0) d.D9 sg=_:=e1;rw[Ie,PD];simp only[Aq,zeq,R5,I6,F3,z1q,G8,addN (show j<2 ^ 62 by omega)]
      exact e2
   obtain⟨es1,e1,g1⟩:=ty d.types.length 0 sg es N (by omega) hm h;rw[z6q]at g1;have Rx:=EK (Ta hm) es1;have vl:=A1T (m:=m) (P:=λj sg=>Av C9 m (Q0 d.vars) (iN d.vars.length) (iN j) d.D9 sg) (vs:=d.vars) (λj hj sg sg' e=>by show Av C9 m (Q0 d.vars) (iN d.vars.length) (iN j) d.D9 sg=Av C9 m (Q0 d.vars) (iN d.vars.length) (iN (j+1)) d.D9 sg';rw[Ny];simp only[Aq,I6,F3,hj,K3,F6,A9K hj,ZM,F8,e,addN (show j<2 ^ 62 by omega)]) d.vars.length 0 _ es1 _ (by omega) Rx g1
   obtain⟨es2,e2,g2⟩:=vl;rw[z6q]at g2;simp only[zrq]at e2;have HY:=EK (Ta hm) es2;have kl:∀(q j:Nat)(sg:List E5)(es:List (DV×DV))(N:List Int),j+q=d.D6.length->S9 sg m=some (false,es)->Ga es N->
    ∃es',Ep C9 m (.list 3 (d.D6.map J6.D9)) (iN d.D6.length) (iN j) sg=some ([],sg.set m (.map false es'))/\Ga es' (vF (d.D6.drop j) N):=by
    intro q;induction q with
    |zero=>intro j sg es N hj hm h;rw[z4q (by omega),Nz,vF];simp only[Aq,I6,F3,I9];rw[A7 (by omega)];exact⟨es,by rw[Na hm],h⟩
    |succ q ihq=>
      intro j sg es N hj hm h;have P8:j<d.D6.length:=by omega
      have mem:=z3q P8;obtain⟨es1,e1,g1⟩:=ih _ mem (d5 _ mem) sg es N hm h;obtain⟨es2,e2,g2⟩:=ihq (j+1) _ es1 _ (by omega) (EK (Ta hm) es1) g1;rw[zrq]at e2;refine⟨es2,?_,by rw[z2q P8,vF];exact g2⟩;rw[Nz];simp only[Aq,I6,F3,P8,K3,F6,B4e P8,A4k,e1,addN (show j<2 ^ 62 by omega)]
      exact e2
   obtain⟨es3,e3,g3⟩:=kl d.D6.length 0 _ es2 _ (by omega) HY g2;rw[z6q]at g3;rw[zrq]at e3;refine⟨es3,?_,?_⟩
   ·have Ie:Bw C9 m (.list 3 (d.types.map Ty.D9)) (iN d.types.length) (iI 0) d.D9 sg=_:=e1;rw[start,Ie,O_];simp only[Aq,zeq,R5,I6,F3,z1q,G8,J6.FL,A9S];have e2':Av C9 m (Q0 d.vars) (iN d.vars.length) (iI 0) d.D9 (sg.set m (.map false es1))=_:=e2;rw[e2',Ny];simp only[Aq,zeq,R5,I6,F3,z1q,G8,J6.DZ,B4h];exact e3
   ·cases d;rw[A52];exact g3
end Go.Su

/-
 Inference in memory: numbers are put; a run.
-/
namespace Go.Su
variable {es:List (DV×DV)}{N:List Int}
theorem Ga.num(h:Ga es N)(v:Int):(Y1 es (iI v)).getD (iI 0)=.int .i64 (numOf N v):=by rw[h.get];unfold numOf;split<;>rfl
theorem Ga.B8S(h:Ga es N)(v:Int):(Y1 es (iI v)).getD (iN 0)=.int .i64 (numOf N v):=h.num v
variable (N:List Int)
theorem B47(t:Ty):KL N t=if t.E8=6 then .mk t.E8 (numOf N t.n) t.D6 else if t.D6.length=0 then t else .mk t.E8 0 (t.D6.map (KL N)):=by
 have e:∀ts:List Ty,ZT N ts=ts.map (KL N):=by
  intro ts;induction ts with
  |nil=>rw[ZT];rfl
  |cons t ts ih=>rw[ZT,ih];rfl
 cases t;rw[KL,e];rfl
variable (d:J6)
theorem B45:VI N d=.mk (d.types.map (KL N)) (d.vars.map (numOf N)) (d.D6.map (VI N)):=by
 have e:∀ts:List J6,eU N ts=ts.map (VI N):=by
  intro ts;induction ts with
  |nil=>rw[eU];rfl
  |cons t ts ih=>rw[eU,ih];rfl
 cases d;rw[VI,e];rfl
section
variable {m:Nat}{sg:List E5}{es:List (DV×DV)}{N:List Int}(hm:S9 sg m=some (false,es))(h:Ga es N)
include hm h
theorem A8M(t:Ty):t.size<=65536->C9.r Fs [(.undef,.map m),(t.D9,.val)] sg=some ([(KL N t).D9],sg):=by
 induction t using Ty.ind with
 |h t ih=>
   intro hz;obtain⟨-,-,hk,-⟩:=kg hz;have start:=(jW m t.D9 sg).trans (lQ _ _ _ _);have ik:AB false (iI t.n)=true:=rfl;have k6:D7 .eql (iI t.E8) (iI 6)=some (.bool (decide (t.E8=6))):=BJ _ _ _;simp only[BN,F8,Ty.CJ,Ty.FL,Ty.DZ,k6,I6,F3,I9,ik,zEq,hm,beq_self_eq_true,h.B8S,Qm,A1Q,show(DV.int .i64 0)=iN 0 from rfl,Nw,Ty.BD,Ty.ag]at start;rw[B47];split
   ·rename_i g;rw[C8 g]at start;rw[start,Ty.O4];rfl
   ·rename_i g;rw[A7 g]at start;split
    ·rename_i g2;rw[C8 g2]at start;exact start
    ·rename_i g2;rw[A7 g2]at start;have key:∀(q j:Nat),j+q=t.D6.length->Gb C9 m (.list 3 (t.D6.map Ty.D9)) (iN t.D6.length) (iN j) (iN 0) (iN 0) (iI t.E8) (iN 0) (.list 3 (((t.D6.take j).map (KL N)).map Ty.D9)) sg=some ([(Ty.mk t.E8 0 (t.D6.map (KL N))).D9],sg):=by
      intro q;induction q with
      |zero=>intro j hj;rw[RD,zfq (by omega)];simp only[Aq,I6,F3,I9];rw[A7 (by omega),Ty.O4];rfl
      |succ q ihq=>
        intro j hj;have P8:j<t.D6.length:=by omega
        have mem:=z3q P8;rw[RD];simp only[Aq,I6,F3,P8,K3,F6,A5K P8,fI,ih _ mem (by have:=Ty.FR mem;omega),z0q,BN,F8,B2y (show((t.D6.take j).map (KL N)).length<2 ^ 31 by rw[zBq,zxq];omega),addN (show j<2 ^ 62 by omega)]
        have:=ihq (j+1) (by omega);rw[z7q P8,zlq]at this;exact this
     rw[start];exact key t.D6.length 0 (by omega)
theorem B5H(d:J6):Sj d->C9.r Jp [(.undef,.map m),(d.D9,.val)] sg=some ([(VI N d).D9],sg):=by
 induction d using J6.ind with
 |h d ih=>
   intro hd;obtain⟨d1,d2,d3,d4,d5⟩:(∀t∈d.types,t.size<=65536)/\d.types.length<=70000/\d.vars.length<2 ^ 29/\d.D6.length<=70000/\∀k∈d.D6,Sj k:=by cases hd with | mk _ a1 a2 a3 a4 a5=>exact⟨a1,a2,a3,a4,a5⟩
   have start:=(jV m d.D9 sg).trans (lN _ _ _ _);simp only[Jj,F8,J6.CJ,A1Q,I6]at start;have ty:∀(q j:Nat)(z0 z1 z2:DV),j+q=d.types.length->Ce C9 m (.list 3 (d.types.map Ty.D9)) (iN d.types.length) (iN j) d.D9 z0 z1 z2 (.list 3 (((d.types.take j).map (KL N)).map Ty.D9)) sg=Ce C9 m (.list 3 (d.types.map Ty.D9)) (iN d.types.length) (iN d.types.length) d.D9 z0 z1 z2 (.list 3 ((d.types.map (KL N)).map Ty.D9)) sg:=by
    intro q;induction q with
    |zero=>intro j z0 z1 z2 hj;rw[zfq (by omega),show j=d.types.length by omega]
    |succ q ihq=>
      intro j z0 z1 z2 hj;have P8:j<d.types.length:=by omega
      rw[RA];simp only[Aq,I6,F3,P8,K3,F6,A5K P8,fI,A8M hm h _ (d1 _ (z3q P8)),z0q,BN,F8,B2y (show((d.types.take j).map (KL N)).length<2 ^ 31 by rw[zBq,zxq];omega),addN (show j<2 ^ 62 by omega)]
      have:=ihq (j+1) z0 z1 z2 (by omega);rw[z7q P8,zlq]at this;exact this
   have va:∀(q j:Nat)(b3 z0 z1 z2 y0 y2:DV),j+q=d.vars.length->Cf C9 m (Q0 d.vars) (iN d.vars.length) (iN j) b3 z0 z1 z2 y0 (Q0 ((d.vars.take j).map (numOf N))) y2 sg=Cf C9 m (Q0 d.vars) (iN d.vars.length) (iN d.vars.length) b3 z0 z1 z2 y0 (Q0 (d.vars.map (numOf N))) y2 sg:=by
    intro q;induction q with
    |zero=>intro j b3 z0 z1 z2 y0 y2 hj;rw[zfq (by omega),show j=d.vars.length by omega]
    |succ q ihq=>
      intro j b3 z0 z1 z2 y0 y2 hj;have P8:j<d.vars.length:=by omega
      have ik:AB false (iI d.vars[j])=true:=rfl;have ap:EP 1 (Q0 ((d.vars.take j).map (numOf N))) (.list 1 [iI (numOf N d.vars[j])])=some (Q0 ((d.vars.take (j+1)).map (numOf N))):=by unfold Q0;rw[Kn (by simp[R9];omega),z7q P8,zlq,zlq];rfl
      rw[RB];simp only[Aq,I6,F3,P8,K3,F6,A9K P8,ZM,F8,ik,zEq,hm,beq_self_eq_true,h.num,Qm,ap,addN (show j<2 ^ 62 by omega)]
      exact ihq (j+1) b3 z0 z1 z2 y0 y2 (by omega)
   have kl:∀(q j:Nat)(z0 z1 z2:DV),j+q=d.D6.length->Fb C9 m (.list 3 (d.D6.map J6.D9)) (iN d.D6.length) (iN j) z0 z1 z2 (.list 3 ((d.types.map (KL N)).map Ty.D9)) (Q0 (d.vars.map (numOf N))) (.list 3 (((d.D6.take j).map (VI N)).map J6.D9)) sg=some ([(VI N d).D9],sg):=by
    intro q;induction q with
    |zero=>intro j z0 z1 z2 hj;rw[Pi,zfq (by omega)];simp only[Aq,I6,F3,I9];rw[A7 (by omega),B45,J6.O4];rfl
    |succ q ihq=>
      intro j z0 z1 z2 hj;have P8:j<d.D6.length:=by omega
      have mem:=z3q P8;rw[Pi];simp only[Aq,I6,F3,P8,K3,F6,B4e P8,A4k,ih _ mem (d5 _ mem),z0q,Jj,F8,B5U (show((d.D6.take j).map (VI N)).length<2 ^ 31 by rw[zBq,zxq];omega),addN (show j<2 ^ 62 by omega)]
      have:=ihq (j+1) z0 z1 z2 (by omega);rw[z7q P8,zlq]at this;exact this
   have t0:=ty d.types.length 0 (.list 3 []) (.list 1 []) (.list 3 []) (by omega);have t0':Ce C9 m (.list 3 (d.types.map Ty.D9)) (iN d.types.length) (iI 0) d.D9 (.list 3 []) (.list 1 []) (.list 3 []) (.list 3 []) sg=_:=t0;rw[start,t0',RA];simp only[Aq,zeq,R5,I6,F3,z1q,G8,J6.FL,A9S];have v0:=va d.vars.length 0 d.D9 (.list 3 []) (.list 1 []) (.list 3 []) (.list 3 ((d.types.map (KL N)).map Ty.D9)) (.list 3 []) (by omega);have v0':Cf C9 m (Q0 d.vars) (iN d.vars.length) (iI 0) d.D9 (.list 3 []) (.list 1 []) (.list 3 []) (.list 3 ((d.types.map (KL N)).map Ty.D9)) (.list 1 []) (.list 3 []) sg=_:=v0;rw[v0',RB];simp only[Aq,zeq,R5,I6,F3,z1q,G8,J6.DZ,B4h];exact kl d.D6.length 0 (.list 3 []) (.list 1 []) (.list 3 []) (by omega)
end
def A4B.D9(r:A4B):DV:=.J9 [.agg [iI r.ty.E8,iI r.ty.n,.list 3 (r.ty.D6.map Ty.D9),.list 3 (r.dv.types.map Ty.D9),Q0 r.dv.vars,.list 3 (r.dv.D6.map J6.D9),iN r.cnt],r.bad.D9,iN r.err]
theorem B71(L:Int):(min (max L 0) 65536).toNat<=65536:=by omega
theorem B1Y{e:Ex}(hr:e.right=true)(hs:e.size<2 ^ 29){mx:Nat}(hmx:mx<=65536):(K5 e mx).1.s.Ok/\(K5 e mx).2.1<(K5 e mx).1.s.l.length/\DD.lt (K5 e mx).1.s.l.length (K5 e mx).2.2:=by have I:l6 ⟨EU mx,P9,0,[],[],[]⟩:=⟨OQ hmx,by simp,⟨by simp,by simp⟩,trivial⟩;obtain⟨a,-,c,d⟩:=Ir e.size e hr 1 [] _ (by omega) I (λx hx=>by cases hx);exact⟨a,c,d⟩
theorem B36:∀(a c:List DD),DD.EC (a++c)=DD.EC a+DD.EC c
 |[],c=>by simp[DD.EC]
 |k::a,c=>by rw[List.cons_append,DD.EC,DD.EC,B36 a c];omega
section
variable {R:Rec}{w:W}{A8:Nat}{l:List EN}{e:Ex}
theorem A89{k:Ex}(h:∀A8 l w,(R k A8 l w).2.2.cnt<=k.size):DD.EC (J4 R w k A8 l).1.D6<=DD.EC w.D6+k.size:=by
 unfold J4;split
 ·simp only;omega
 ·simp only
  rw[B36,DD.EC,DD.EC];have:=h A8 l w;omega
theorem B51(f a:Nat):(WE w f a e A8).1.D6=w.D6:=by
 unfold WE
 repeat' split
 all_goals simp
theorem B52:(w.name e A8 l).1.D6=w.D6:=by
 have mk:∀(k:Nat)(w:W),(W.many A8 k w).D6=w.D6:=by
  intro k;induction k with
  |zero=>intro w;rfl
  |succ k ih=>intro w;rw[W.many,ih];exact TV w A8
 unfold W.name;split
 ·simp
 ·split
  ·rfl
  ·simp only
   split
   ·exact mk _ w
   ·simp only[A1O];exact mk _ w
theorem B0P{v r:Nat}:∀(rs:List (F5×Ex))(w:W),(∀a∈rs,∀A8 l w,(R a.2 A8 l w).2.2.cnt<=a.2.size)->DD.EC (Gd R A8 l v r rs w).1.D6<=DD.EC w.D6+(rs.map λa=>a.2.size).sum
 |[],w,_=>by simp[Gd]
 | (p,k)::rs,w,h=>by
   rw[Gd];split
   ·simp only;omega
   ·simp only
    refine z8q (B0P rs _ λa ha=>h a (zcq _ ha)) ?_;rw[GI,zhq,zmq];have:=A89 (w:=({ w with s:=(BG A8 p v ⟨w.s,[],[],P9⟩).1.s }:W).fails (BG A8 p v ⟨w.s,[],[],P9⟩).2 (BG A8 p v ⟨w.s,[],[],P9⟩).1.bad) (A8:=A8) (l:=l++if (BG A8 p v ⟨w.s,[],[],P9⟩).2≠0 then[]else List.zipWith (λs n=>(⟨s,n,[]⟩:EN)) (BG A8 p v ⟨w.s,[],[],P9⟩).1.names (BG A8 p v ⟨w.s,[],[],P9⟩).1.nodes) (h (p,k) (zgq ..));rw[A1O]at this;simp only at this ⊢;omega
theorem B37{want:Nat}:∀(ks:List Ex)(w:W),(∀k∈ks,∀A8 l w,(R k A8 l w).2.2.cnt<=k.size)->DD.EC (LZ R A8 l want ks w).D6<=DD.EC w.D6+(ks.map Ex.size).sum
 |[],w,_=>by simp[LZ]
 |k::ks,w,h=>by rw[LZ];refine z8q (B37 ks _ λa ha=>h a (zcq _ ha)) ?_;rw[GI,zhq,zmq];have:=A89 (w:=w) (A8:=A8) (l:=l) (h k (zgq ..));omega
theorem bg(h:e.D6.length=2):(e.D6.map Ex.size).sum=(e.kd 0).size+(e.kd 1).size:=by
 match hk:e.D6,h with
 |[a,c],_=>simp[Ex.kd,hk]
theorem A25(h:e.D6.length=1):(e.D6.map Ex.size).sum=(e.kd 0).size:=by
 match hk:e.D6,h with
 |[a],_=>simp[Ex.kd,hk]
theorem B0y(h:e.D6.length=3):(e.D6.map Ex.size).sum=(e.kd 0).size+(e.kd 1).size+(e.kd 2).size:=by
 match hk:e.D6,h with
 |[a,c,d],_=>simp[Ex.kd,hk];omega
theorem B2F(hr:e.right=true)(h:∀k∈e.D6,∀A8 l w,(R k A8 l w).2.2.cnt<=k.size)(hw:w.D6=[]):DD.EC (U0 R w e A8 l).1.D6<=(e.D6.map Ex.size).sum:=by
 obtain⟨k1,k2,k3⟩:=Ex.tY hr;have z:DD.EC w.D6=0:=by rw[hw];rfl
 have kd:∀i,i<e.D6.length->∀(w:W)(A8:Nat)(l:List EN),DD.EC (J4 R w (e.kd i) A8 l).1.D6<=DD.EC w.D6+(e.kd i).size:=λi hi w A8 l=>A89 (h _ (Ex.Cr hi));unfold U0;by_cases g:e.E8=1
 ·rw[C8 g,B52];omega
 rw[A7 g];by_cases g:e.E8=2\/e.E8=3\/e.E8=4\/e.E8=5
 ·rw[C8 g];simp only;omega
 rw[A7 g];by_cases g:e.E8=6
 ·rw[C8 g];have n2:e.D6.length=2:=by simp[g,O5]at k3;omega
  rw[bg n2];simp only[kC];have a:=kd 0 (by omega) w A8 l;have c:=kd 1 (by omega) (J4 R w (e.kd 0) A8 l).1 A8 l;omega
 rw[A7 g];by_cases g:e.E8=7
 ·rw[C8 g];simp only[kC,kE,TV];omega
 rw[A7 g];by_cases g:e.E8=8
 ·rw[C8 g];have n2:e.D6.length=2:=by simp[g,O5]at k3;omega
  rw[bg n2];unfold Ox;simp only[GI,kC,kE,TV];have a:=kd 0 (by omega) w A8 l;have c:=kd 1 (by omega) (J4 R w (e.kd 0) A8 l).1 A8 l;omega
 rw[A7 g];by_cases g:e.E8=9
 ·rw[C8 g];have n2:e.D6.length=1:=by simp[g,O5]at k3;omega
  rw[A25 n2];simp only[kC];have a:=kd 0 (by omega) (w.Ae e.a A8).1 A8 (l++[⟨e.name,(w.Ae e.a A8).2,[]⟩]);rw[kD]at a;omega
 rw[A7 g];by_cases g:e.E8=10
 ·rw[C8 g];have n2:e.D6.length=2:=by simp[g,O5]at k3;omega
  rw[bg n2];unfold UN;simp only[B51];have a:=kd 0 (by omega) w A8 l;have c:=kd 1 (by omega) (J4 R w (e.kd 0) A8 l).1 A8 l;omega
 rw[A7 g];by_cases g:e.E8=11
 ·rw[C8 g];have n2:e.D6.length=2:=by simp[g,O5]at k3;omega
  rw[bg n2];unfold VD;simp only
  split
  ·refine z8q (kd 1 (by omega) _ _ _) ?_;have a:=kd 0 (by omega) w A8 l;simp only[GI,A9N];omega
  ·split
   ·split
    ·refine z8q (kd 1 (by omega) _ _ _) ?_;have a:=kd 0 (by omega) w (A8+1) l;omega
    ·refine z8q (kd 1 (by omega) _ _ _) ?_;have a:=kd 0 (by omega) w (A8+1) l;simp only[A0E,vB];omega
   ·refine z8q (kd 1 (by omega) _ _ _) ?_;have a:=kd 0 (by omega) w A8 l;omega
 rw[A7 g];by_cases g:e.E8=12
 ·rw[C8 g];have n2:e.D6.length=2:=by simp[g,O5]at k3;omega
  rw[bg n2];unfold VM;simp only
  split
  all_goals
   refine z8q (kd 1 (by omega) _ _ _) ?_;simp only[A0E,vB,GI];refine z8q (zyq (kd 0 (by omega) _ _ _) _) ?_;simp only[kC,kD];omega
 rw[A7 g];by_cases g:e.E8=13
 ·rw[C8 g];have n2:e.D6.length=3:=by simp[g,O5]at k3;omega
  rw[B0y n2];unfold Ow;simp only[GI,kE,TV];refine z8q (kd 2 (by omega) _ _ _) ?_;refine z8q (zyq (kd 1 (by omega) _ _ _) _) ?_;have a:=kd 0 (by omega) w A8 l;simp only[GI];omega
 rw[A7 g];by_cases g:e.E8=14
 ·rw[C8 g];have n1:e.D6.length=e.J8.length+1:=by simp[g,O5]at k3;omega
  unfold LD;simp only;refine z8q (B0P _ _ λa ha=>h _ (List.mem_of_mem_tail (List.of_mem_zip ha).2)) ?_;simp only[kE,TV,GI];have a:=kd 0 (by omega) w A8 l;have:((e.J8.zip e.D6.tail).map λa=>a.2.size)=e.D6.tail.map Ex.size:=by
   have e1:((e.J8.zip e.D6.tail).map λa=>a.2.size)=((e.J8.zip e.D6.tail).map Prod.snd).map Ex.size:=by rw[List.map_map];rfl
   rw[e1,List.map_snd_zip (by rw[zuq];omega)]
  rw[this]
  match hk:e.D6,n1 with
  |k::ks,_=>
    simp only[List.tail_cons,zhq,zmq];have:e.kd 0=k:=by simp[Ex.kd,hk]
    rw[this]at a ⊢;omega
 rw[A7 g];by_cases g:e.E8=15
 ·rw[C8 g];have n2:e.D6.length=1:=by simp[g,O5]at k3;omega
  rw[A25 n2];simp only[GI,A9N];have a:=kd 0 (by omega) w A8 l;omega
 rw[A7 g];have:=B37 (R:=R) (A8:=A8) (l:=l) (want:=if e.op=7 then 2 else 0) e.D6 w h;simp only;omega
end
theorem A8f:∀(f:Nat)(e:Ex),e.right=true->∀A8 l w,(N9 f e A8 l w).2.2.cnt<=e.size
 |0,e,_=>λA8 l w=>by simp only[N9,DD.cnt,DD.EC];have:=e.size_eq;omega
 |f+1,e,hr=>λA8 l w=>by have:=B2F (R:=N9 f) (w:={ w with types:=[],vars:=[],D6:=[] }) (A8:=A8) (l:=l) hr (λk hk=>A8f f k (Ex.Hf hr hk)) rfl;rw[N9];simp only;rw[DD.cnt,Ex.size_eq];omega
theorem B7n{e:Ex}(hr:e.right=true)(Vt:e.Y0<2 ^ 28)(L:Int)(hrn:(K5 e (min (max L 0) 65536).toNat).1.s.J7+10<2 ^ 62):C9.p Cc [e.D9,iI L]=some (Y8 e (min (max L 0) 65536).toNat).D9:=by
 refine(A3L _ _).trans ?_;have hmx:=B71 L;have BQ:e.fit:=Ex.aP (by omega);have Cw:e.size<2 ^ 28:=Nat.lt_of_le_of_lt e.Tc Vt;rw[A4P];have nw:=B7l L;generalize (min (max L 0) 65536).toNat=mx at hrn hmx nw ⊢
 let w0:W:=⟨EU mx,P9,0,[],[],[]⟩
 let sg0:List E5:=VQ 5 mx++[.box (qC 0 w0)]
 have T0:KE 0 1 2 w0 sg0:=⟨(B7u mx).app _,rfl⟩;have I:l6 w0:=⟨OQ hmx,by simp[w0],⟨by simp[w0],by simp[w0]⟩,trivial⟩;obtain⟨r1,r2,r3⟩:=B1Y hr (by omega) hmx;obtain⟨s1,e1,t1,k1⟩:=A8L (b:=0) (i:=1) (t:=2) e.size e hr (zpq _) 1 [] w0 sg0 (by omega) (by simp;omega) I (λx hx=>by cases hx) (λx hx=>by cases hx) T0 hrn;have hx:N9 e.size e 1 [] w0=K5 e mx:=rfl;rw[hx]at e1 t1;have tc:Sg e BQ=Sg e BQ:=rfl;have Ie:C9.r Bu [(.undef,.ptr (VQ 5 mx).length 0),(e.D9,.val),(iI 1,.val),(.list 3 [],.val)] (VQ 5 mx++[E5.box ((.undef,(.ptr 0 0))::(zz4 [((iI 0),.val)]))])=_:=e1;have dp:A4I (.int .u64 0)=some 0:=rfl;have ln:(VQ 5 mx).length=2:=rfl;have shape:∃m ts vs ks,(K5 e mx).2.2=.mk m ts vs ks/\m=(K5 e mx).2.1:=by
  unfold K5;have:e.size≠0:=by have:=e.size_eq;omega
  obtain⟨f,hf⟩:=Nat.exists_eq_succ_of_ne_zero this;rw[hf,N9];exact⟨_,_,_,_,rfl,rfl⟩
 obtain⟨m,ts,vs,ks,hd,pW⟩:=shape;have B6m:(K5 e mx).2.2.cnt<=2 ^ 30:=z8q (A8f e.size e hr 1 [] w0) (by omega);obtain⟨y,s2,e2,t2,k2,x2⟩:=A6Z (K5 e mx).2.2 (K5 e mx).1 s1 t1 r1 r3 B6m;obtain⟨n1,n2⟩:=NA (K5 e mx).2.2 (K5 e mx).1 r1;have l2:(V7 (K5 e mx).2.2 (K5 e mx).1).s.l.length=(K5 e mx).1.s.l.length:=by rw[n1.l]
 obtain⟨dv,s3,e3,t3,k3,x3⟩:=A8N (K5 e mx).2.2 (V7 (K5 e mx).2.2 (K5 e mx).1) s2 t2 n1.ok (by rw[l2];exact r3) B6m;have da:=uq (K5 e mx).2.2;have tcc:=Sg e BQ;rw[hr]at tcc;simp only[F6]at tcc;have e2':C9.r Ew [(.undef,.ptr (VQ 5 mx).length 0),((K5 e mx).2.2.D9,.val)] s1=_:=e2;have e3':C9.r Fu [(.undef,.ptr (VQ 5 mx).length 0),((K5 e mx).2.2.D9,.val)] s2=_:=e3;have ok':C9.r U3 [(.undef,.ptr (VQ 5 mx).length 0)] s3=_:=JJ t3;simp only[AJ,F8,N_,tcc,I6,Dm,K3,zbq,F3,z1q,G8,nw,z0q,dp,Ie,Oy,Oz,da.1,da.2,e2',BN,e3',Jj,ok',U1];have b3:H5 s3 (VQ 5 mx).length=_:=t3.box;by_cases g:(X3 (K5 e mx).2.2 (V7 (K5 e mx).2.2 (K5 e mx).1)).1.err=0
 ·simp only[g,K3,zbq,z1q,G8]
  unfold Y8;simp only;rw[A7 (λh=>h g)];have cm:=n1.ok.cm;have mm:=n1.ok.mm;obtain⟨f1,-,f3⟩:=yx (K5 e mx).2.2 (V7 (K5 e mx).2.2 (K5 e mx).1) (K5 e mx).1.s.l.length n1.ok r3 (by
   have he:(V7 (K5 e mx).2.2 (K5 e mx).1).err=0:=by
    by_cases he:(V7 (K5 e mx).2.2 (K5 e mx).1).err=0
    ·exact he
    ·exfalso;rw[hd,X3]at g;have e0:∀(l:List Nat)(w:W),w.err≠0->(X9 l w).1=w:=λl w h=>by cases l with
      |nil=>rfl
      |cons a l=>rw[X9,C8 h]
     rw[hd]at he;simp only[e0 ts _ he]at g;rw[(uI ks _ he).2.1]at g;exact he g
   have:=(n2 he).2;omega)
  obtain⟨f4,f5⟩:=f3 g;have hy:y=((K5 e mx).1.s.read (K5 e mx).2.1).2.1:=by rw[x2 (n2 f4).1 m ts vs ks hd,pW]
  have hdv:=x3 g;have ysz:y.size<=65536:=by have h0:=(n2 f4).1;have hn:=f4;rw[hd,V7,A7 (λh=>h h0)]at hn;have e':(({ (K5 e mx).1 with s:=((K5 e mx).1.s.read m).1 }:W).fails ((K5 e mx).1.s.read m).2.2 P9)=(K5 e mx).1.rd m:=rfl;rw[e']at hn;obtain⟨o1,-,-,o4⟩:=ZW r1 m;have h1:=((X_ ks _ o1).2 hn).1;have h2:=(o4 h1).2.1;rw[hy,<- pW];exact((vM r1 m).2.2.2.2 h2).2.1
  obtain⟨h1,h2,-,h4⟩:=kg ysz
  let mi:=s3.length
  have hm0:S9 (s3++[.map false []]) mi=some (false,[]):=by simp[S9,mi]
  have N0:Ga [] []:=⟨λv=>rfl,rfl⟩;have lp:=A1T (m:=mi) (P:=λj sg=>Ez C9 (VQ 5 mx).length mi (Q0 y.vars) (iN y.vars.length) (iN j) y.D9 dv.D9 sg) (vs:=y.vars) (λj hj sg sg' e=>by show Ez C9 (VQ 5 mx).length mi (Q0 y.vars) (iN y.vars.length) (iN j) y.D9 dv.D9 sg=Ez C9 (VQ 5 mx).length mi (Q0 y.vars) (iN y.vars.length) (iN (j+1)) y.D9 dv.D9 sg';rw[aI];simp only[Aq,I6,F3,hj,K3,F6,A9K hj,ZM,F8,e,addN (show j<2 ^ 62 by omega)]) y.vars.length 0 _ [] [] (by omega) hm0 N0
  obtain⟨es1,p1,q1⟩:=lp;rw[z6q]at q1;have lmi:mi<(s3++[E5.map false []]).length:=Ta hm0;have Rx:=EK lmi es1;obtain⟨es2,p2,q2⟩:=B2e dv (by rw[hdv];exact f5) _ es1 _ Rx q1;rw[zrq]at p2;have HY:=EK lmi es2;have p3:=A8M HY q2 y ysz;have p4:=B5H HY q2 dv (by rw[hdv];exact f5);have Yt:=CV t3.box;have b4:H5 ((s3++[E5.map false []]).set mi (.map false es2)) (VQ 5 mx).length=some (qC 0 (X3 (K5 e mx).2.2 (V7 (K5 e mx).2.2 (K5 e mx).1)).1):=by rw[Cm (by have:(2:Nat)<s3.length:=Yt;rw[ln];omega)];unfold H5;rw[zjq (show(VQ 5 mx).length<s3.length from Yt)];exact congrArg (λo=>match o with | some (E5.box cs)=>some cs | _=>none) (Wn t3.box)
  have st4:Y6 0 1 (X3 (K5 e mx).2.2 (V7 (K5 e mx).2.2 (K5 e mx).1)).1.s ((s3++[E5.map false []]).set mi (.map false es2)):=by obtain⟨ms,v,a⟩:=t3.st.app [E5.map false []];have:=t3.st.lt;exact(a.fC (by omega) (by omega) _).at
  have oe:∀{β : Type}(y:Option β),Mf True y=y:=λy=>by unfold Mf;rw[C8 trivial]
  simp only[fI,xf y h1 h2];simp only[I6,A9S];have p1':Ez C9 (VQ 5 mx).length s3.length (Q0 y.vars) (iN y.vars.length) (iI 0) y.D9 dv.D9 (s3++[.map false []])=_:=p1;rw[p1',aI];simp only[Aq,zeq,R5,I6,F3,z1q,G8,A4k,fI,p2,p3,p4,b4,JZ,oe,A6S st4,z0q,BN,Jj,F8,O8];simp only[Ty.CJ,Ty.FL,Ty.DZ,J6.CJ,J6.FL,J6.DZ,A4k,fI,p2,p3,p4,b4,JZ,oe,A6S st4,z0q,BN,Jj,F8,O8,I6];rw[<- hdv,<- hy];rfl
 ·simp only[g,R5,ziq,F6,b3,I6]
  unfold Y8;simp only;rw[C8 g];rfl
end Go.Su

/-
 What is not B7O has few ? in its annotations.
-/
namespace Go.Su
set_option linter.defProp false
def A8h(t:Ty):t.dn<=t.size:=by
 induction t using Ty.ind with
 |h t ih=>
   have key:∀ts:List Ty,(∀k∈ts,k∈t.D6)->Ty.Ev ts<=(ts.map Ty.size).sum:=by
    intro ts;induction ts with
    |nil=>intro _;rw[Ty.Ev];exact Nat.zero_le _
    |cons k ts ihs=>intro h;rw[Ty.Ev,zhq,zmq];exact Nat.add_le_add (ih k (h k (zgq ..))) (ihs λx hx=>h x (zcq _ hx))
   rw[Ty.A4j,Ty.size_eq];have:=key t.D6 λk hk=>hk;split<;>omega
def kY(t:Ty):t.thin=true->∀n:Int,0<=n->n<=401->∃m:Int,C9.p Hu [t.D9,iI n]=some (iI m)/\n<=m/\m<=401/\(m<=400->n+t.size<=m+1):=by
 induction t using Ty.ind with
 |h t ih=>
   intro ht n h0 h1;have hb:=t.IZ ht;have loop:∀(k j:Nat)(n:Int),j+k=t.D6.length->0<=n->n<=401->∃m:Int,Kg C9 (iI n) (iI j) t.D9=some (iI m)/\n<=m/\m<=401/\(m<=400->n+(((t.D6.drop j).map Ty.size).sum:Nat)<=m):=by
    intro k;induction k with
    |zero=>
      intro j n hj h0 h1;refine⟨n,?_,Int.le_refl _,h1,λ_=>by rw[z4q (by omega)];simp⟩;have:¬j<t.D6.length:=by omega
      rw[OY];simp[this]
    |succ k ihk=>
      intro j n hj h0 h1;have P8:j<t.D6.length:=by omega
      rw[OY];by_cases hn:n<=400
      ·have YL:D7 .add (iI n) (iI 1)=some (iI (n+1)):=WH (by omega) (by omega);obtain⟨m,a1,a2,a3,a4⟩:=ih _ (z3q P8) (Ty.IY ht (z3q P8)) (n+1) (by omega) (by omega);obtain⟨m',b1,b2,b3,b4⟩:=ihk (j+1) m (by omega) (by omega) a3;push_cast at b1;exact⟨m',by simp[P8,hn,YL,V5 P8,Ty.BD,Ty.ag,a1,Co (show j<9223372036854775807 by omega),b1],by omega,b3,λhm=>by have g1:=b4 hm;have g2:=a4 (by omega);rw[z2q P8,zhq,zmq];push_cast;omega⟩
      ·exact⟨n,by simp[P8,hn],Int.le_refl _,h1,λh=>absurd h hn⟩
   obtain⟨m,a1,a2,a3,a4⟩:=loop t.D6.length 0 n (by omega) h0 h1;refine⟨m,(Yk _ _).trans ?_,a2,a3,λhm=>by have:=a4 hm;have:=t.size_eq;rw[z6q]at *;push_cast at *;omega⟩
   rw[aJ];simp;exact a1
def B0n(t:Ex):t.fit->∀n:Int,0<=n->n<=401->∃m:Int,C9.p Wt [t.D9,iI n]=some (iI m)/\0<=m/\m<=402/\(n=401->401<=m)/\(m<=400->n+t.size<=m/\EL 802 t):=by
 induction t using Ex.ind with
 |h t ih=>
   intro ht n h0 h1;have hk:=big (Nat.le_of_lt ht.one.D6);have hp:=big (Nat.le_of_lt ht.one.J8);have e12:∀m:Int,0<=m->m<=402->∃m':Int,QZ C9 (iI m) t.D9=some (iI m')/\0<=m'/\m'<=402/\(m'=m\/m'=401):=by
    intro m hm HY;rw[A0d];by_cases c1:(300:Int)<(t.s.size:Int)
    ·exact⟨401,by simp[c1],by omega,by omega,.inr rfl⟩
    by_cases c2:(300:Int)<(t.name.size:Int)
    ·exact⟨401,by simp[c1,c2],by omega,by omega,.inr rfl⟩
    by_cases c3:(300:Int)<(t.arg.size:Int)
    ·exact⟨401,by simp[c1,c2,c3],by omega,by omega,.inr rfl⟩
    ·exact⟨m,by simp[c1,c2,c3],hm,HY,.inl rfl⟩
   have l9:∀(k j:Nat)(n:Int),j+k=t.D6.length->0<=n->n<=402->∃m:Int,Qb C9 (iI n) (iI j) t.D9=some (iI m)/\0<=m/\m<=402/\(401<=n->401<=m)/\(m<=400->n+(((t.D6.drop j).map Ex.size).sum:Nat)<=m/\∀k∈t.D6.drop j,EL 802 k):=by
    intro k;induction k with
    |zero=>
      intro j n hj h0 h1;obtain⟨m,a1,a2,a3,a4⟩:=e12 n h0 h1;have:¬j<t.D6.length:=by omega
      refine⟨m,by rw[UU];simp[this,a1],a2,a3,λ_=>by omega,λhm=>?_⟩;rw[z4q (by omega)];simp;omega
    |succ k ihk=>
      intro j n hj h0 h1;have P8:j<t.D6.length:=by omega
      by_cases hn:n<=400
      ·obtain⟨m,a1,a2,a3,a4,a5⟩:=ih _ (z3q P8) (ht.kid (z3q P8)) n h0 (by omega);obtain⟨m',b1,b2,b3,b4,b5⟩:=ihk (j+1) m (by omega) a2 a3;push_cast at b1;refine⟨m',by rw[UU];simp[P8,hn,V5 P8,Ex.BD,Ex.ag,a1,Co (show j<9223372036854775807 by omega),b1],b2,b3,λh=>absurd h (by omega),λhm=>?_⟩;have g1:=b5 hm;have g2:m<=400:=by
        by_cases h:m<=400
        ·exact h
        ·have:=b4 (by omega);omega
       have g3:=a5 g2;rw[z2q P8,zhq,zmq];push_cast;exact⟨by omega,λk hk=>by
        rcases zsq.1 hk with rfl | hk
        ·exact g3.2
        ·exact g1.2 k hk⟩
      ·obtain⟨m,a1,a2,a3,a4⟩:=e12 n h0 h1;exact⟨m,by rw[UU];simp[P8,hn,a1],a2,a3,λ_=>by omega,λhm=>absurd hm (by omega)⟩
   have e8:∀n:Int,0<=n->n<=402->∃m:Int,SH C9 (iI n) t.D9=some (iI m)/\0<=m/\m<=402/\(401<=n->401<=m)/\(m<=400->n+((t.D6.map Ex.size).sum:Nat)<=m/\∀k∈t.D6,EL 802 k):=by intro n h0 h1;obtain⟨m,a1,a2,a3,a4,a5⟩:=l9 t.D6.length 0 n (by omega) h0 h1;exact⟨m,by rw[A1m];simpa using a1,a2,a3,a4,by simpa using a5⟩
   have l5:∀(k j:Nat)(n:Int),j+k=t.J8.length->0<=n->n<=402->∃m:Int,Qa C9 (iI n) (iI j) t.D9=some (iI m)/\0<=m/\m<=402/\(401<=n->401<=m)/\(m<=400->n+((t.D6.map Ex.size).sum:Nat)<=m/\∀k∈t.D6,EL 802 k):=by
    intro k;induction k with
    |zero=>
      intro j n hj h0 h1;obtain⟨m,a1,a2,a3,a4,a5⟩:=e8 n h0 h1;have:¬j<t.J8.length:=by omega
      exact⟨m,by rw[UT];simp[this,a1],a2,a3,a4,a5⟩
    |succ k ihk=>
      intro j n hj h0 h1;have P8:j<t.J8.length:=by omega
      by_cases hn:n<=400
      ·obtain⟨m,a1,a2,a3⟩:=A07 _ (F5.yE (ht.one.pat _ (z3q P8))) n h0 (by omega);obtain⟨m',b1,b2,b3,b4,b5⟩:=ihk (j+1) m (by omega) (by omega) (by omega);push_cast at b1;refine⟨m',by rw[UT];simp[P8,hn,V5 P8,F5.BD,F5.ag,a1,Co (show j<9223372036854775807 by omega),b1],b2,b3,λh=>absurd h (by omega),λhm=>?_⟩;have:=b5 hm;exact⟨by omega,this.2⟩
      ·obtain⟨m,a1,a2,a3,a4,a5⟩:=e8 n h0 h1;exact⟨m,by rw[UT];simp[P8,hn,a1],a2,a3,a4,a5⟩
   have YL:D7 .add (iI n) (iI 1)=some (iI (n+1)):=WH (by omega) (by omega);by_cases hn1:n+1<=401
   ·obtain⟨ma,a1,a2,a3,a4⟩:=kY _ ht.one.a (n+1) (by omega) hn1;obtain⟨mb,b1,b2,b3,b4⟩:=kY _ ht.one.b ma (by omega) a3;obtain⟨m,c1,c2,c3,c4,c5⟩:=l5 t.J8.length 0 mb (by omega) (by omega) (by omega);refine⟨m,(pJ _ _).trans ?_,c2,c3,λh=>absurd h (by omega),λhm=>?_⟩
    ·rw[rY];simp[YL,Ty.BD,Ty.ag,a1,b1];exact c1
    ·obtain⟨d1,d2⟩:=c5 hm;have e1:=t.size_eq;have e2:=b4 (by omega);have e3:=a4 (by omega);have e4:=A8h t.a;have e5:=A8h t.b;refine⟨by push_cast at *;omega,.mk (by omega) (by omega) d2⟩
   ·-- more than enough
    have hn:n=401:=by omega
    subst hn;have B5Z:∀y:Ty,C9.p Hu [y.D9,iI 402]=some (iI 402):=by intro y;refine(Yk _ _).trans ?_;rw[aJ];simp;rw[OY];by_cases h:0<y.D6.length<;>simp[h]
    obtain⟨m,c1,c2,c3,c4,c5⟩:=l5 t.J8.length 0 402 (by omega) (by omega) (by omega);refine⟨m,(pJ _ _).trans ?_,c2,c3,λ_=>c4 (by omega),λhm=>absurd (c4 (by omega)) (by omega)⟩;rw[rY];simp[YL,Ty.BD,Ty.ag,B5Z];exact c1
end Go.Su

/-
 What the law takes for B7O.
-/
namespace Go.Su
set_option linter.defProp false
def A7U(e:Ex)(ft:e.fit):∃b:Bool,C9.p fO [.list 16 [e.D9]]=some (.bool b)/\(b=false->e.size<=400/\EL 802 e):=by
 obtain⟨m,a1,a2,a3,a4,a5⟩:=B0n e ft 0 (by omega) (by omega);refine⟨decide (400<m),(A3O _).trans ?_,λh=>?_⟩
 ·rw[A4S,dP];have e0:M9 16 (.list 16 [e.D9]) (iI 0)=some e.D9:=rfl;have e1:D7 .add (iI 0) (iI 1)=some (iI 1):=rfl;have e2:O3 (.list 16 [e.D9])=some (iI 1):=rfl;have e3:D7 .lss (iI 0) (iI 1)=some (.bool true):=rfl;have e4:D7 .lss (iI 1) (iI 1)=some (.bool false):=rfl;simp only[e2,I6,e3,F3,F6,e0,N_,a1,e1];rw[dP];simp only[e2,I6,e4,F3,z1q,G8];simp
 ·have hm:m<=400:=by simpa using h
  have:=a5 hm;exact⟨by omega,this.2⟩
def A37(e:Ex)(ft:e.fit)(hm:e.Y0<=R9):∃b:Bool,C9.p fP [.list 16 [e.D9]]=some (.bool b)/\(b=false->e.size<=90/\EL 802 e):=by
 obtain⟨b,h1,h2⟩:=A7U e ft;cases b with
 |true=>refine⟨true,(pK _).trans ?_,λh=>by simp at h⟩;rw[rZ];simp only[h1,I6,F3,F6]
 |false=>obtain⟨h3,h4⟩:=h2 rfl;refine⟨decide (90<e.size),(pK _).trans ?_,λh=>⟨by simpa using h,h4⟩⟩;rw[rZ];have e0:M9 16 (.list 16 [e.D9]) (iI 0)=some e.D9:=rfl;have e1:D7 .add (iI 0) (iI 1)=some (iI 1):=rfl;have e2:O3 (.list 16 [e.D9])=some (iI 1):=rfl;have e3:D7 .lss (iI 0) (iI 1)=some (.bool true):=rfl;have e4:D7 .lss (iI 1) (iI 1)=some (.bool false):=rfl;have e5:D7 .add (iI 0) (iI e.size)=some (iI (0+e.size)):=WH (by omega) (by omega);simp only[h1,I6,F3,z1q,G8];rw[dQ];simp only[e2,I6,e3,F3,F6,e0,N_,A7Y e ft hm,e5,e1];rw[dQ];simp only[e2,I6,e4,F3,z1q,G8];simp;omega
end Go.Su

/-
 What the closed call of l15_wakes gives: out of the model's three closed runs.
-/
namespace Go.Su
set_option linter.defProp false
variable (r:A4B)
def A4B.ag:DV:=.agg [.int .i64 r.ty.E8,.int .i64 r.ty.n,.list 3 (r.ty.D6.map Ty.D9),.list 3 (r.dv.types.map Ty.D9),Q0 r.dv.vars,.list 3 (r.dv.D6.map J6.D9),iN r.cnt]
theorem A13:Q3 0 r.D9=some r.ag:=rfl
theorem A14:Q3 1 r.D9=some r.bad.D9:=rfl
theorem A15:Q3 2 r.D9=some (iN r.err):=rfl
theorem B0f:I7 7 r.ag=true:=rfl
variable (b:GY)
theorem A87:I7 6 b.D9=true:=rfl
theorem A0Y:A9 6 r.ag=iN r.cnt:=rfl
theorem B8a:A9 3 r.ag=.list 3 (r.dv.types.map Ty.D9):=rfl
theorem B4t:DV.agg [A9 0 r.ag,A9 1 r.ag,A9 2 r.ag]=r.ty.D9:=by rw[Ty.O4];rfl
theorem B79:DV.agg [A9 3 r.ag,A9 4 r.ag,A9 5 r.ag]=r.dv.D9:=by rw[J6.O4];rfl
theorem B34:DV.agg [A9 0 b.D9,A9 1 b.D9,A9 2 b.D9,A9 3 b.D9,A9 4 b.D9,A9 5 b.D9]=b.D9:=rfl
def B35:xy [.int,.int,.int,.int,.int,.str] b.D9 b.D9=some true:=by simp[xy,GY.D9,BA,A9g,iN]
variable (s:ByteArray)
theorem A7T:C9.p Yw [.str s]=some (LC 1 0 0 s).D9:=by refine(A5e _).trans ?_;rw[A7p];have:J3 (.str s)=true:=rfl;simp only[this,F8];rw[Ex.O4];rfl
theorem B2d:C9.p ko []=some M_.D9:=by refine A7k ?_;rw[B1a];have h:C9.p Yw [.str ⟨#[120]⟩]=some (LC 1 0 0 xB).D9:=A7T _;simp only[h,I6,AJ,F8];rw[Ex.O4 M_];rfl
def xm(k lo hi:Int)(s:ByteArray):EL 802 (LC k lo hi s):=.mk (by simp[LC,Ty.dn,Ty.Ev]) (by simp[LC,Ty.dn,Ty.Ev]) (by simp[LC])
def A4v{e:Ex}(hr:e.right=true)(Vt:e.Y0<2 ^ 28)(hs:e.size<=90)(hA:EL 802 e)(n:Nat)(hn:n<=65536):C9.p Cc [e.D9,iN n]=some (Y8 e n).D9:=by
 have e1:(min (max (n:Int) 0) 65536).toNat=n:=by omega
 have:=B7n hr Vt (n:Int) (by rw[e1];exact B5k hr (by omega) hn hA (by omega) (by omega));rw[e1]at this;exact this
theorem iK:C9.p LQ []=some (.bool true):=by
 refine A1h ?_;rw[A4T];have a1:EL 802 M_:=.mk (by simp[M_,Ty.dn,Ty.Ev]) (by simp[M_,Ty.dn,Ty.Ev]) (by simp[M_];exact xm _ _ _ _);have a2:EL 802 IL:=.mk (by simp[IL,Ty.dn,Ty.Ev]) (by simp[IL,Ty.dn,Ty.Ev]) (by simp[IL];exact⟨xm _ _ _ _,xm _ _ _ _⟩);have zn:(Ty.mk 0 0 []).none=true:=by simp[Ty.none]
 have xn:KA ⟨#[120]⟩=true:=by decide +kernel
 have r1:M_.right=true:=by rw[Ex.right_eq];simp[M_,LC,Ex.right_eq,Ex.one,Ex.yX,Ex.yY,Ex.yZ,Ex.yc,Ex.yf,Ex.iC,Ex.uE,Ex.A1V,Jf,O5,AQ,Bl,eN,eS,Dq,eA,eB,Ao,Xz,XE,A2Y,zn,xn,xB]
 have r2:IL.right=true:=by rw[Ex.right_eq];simp[IL,LC,Ex.right_eq,Ex.one,Ex.yX,Ex.yY,Ex.yZ,Ex.yc,Ex.yf,Ex.iC,Ex.uE,Ex.A1V,Jf,O5,AQ,Bl,eN,eS,Dq,eA,eB,Ao,Xz,XE,A2Y,zn]
 have m1:M_.Y0<2 ^ 28:=by rw[Ex.CF];simp[M_,LC,Ex.CF,Ty.size_eq,xB,Z5,ByteArray.size]
 have m2:IL.Y0<2 ^ 28:=by rw[Ex.CF];simp[IL,LC,Ex.CF,Ty.size_eq,xB,Z5,ByteArray.size]
 have h1:C9.p Cc [M_.D9,.int .i64 100]=some (Y8 M_ 100).D9:=A4v r1 m1 (by rw[A9J];omega) a1 100 (by omega);have h2:C9.p Cc [M_.D9,.int .i64 1]=some (Y8 M_ 1).D9:=A4v r1 m1 (by rw[A9J];omega) a1 1 (by omega);have h3:C9.p Cc [IL.D9,.int .i64 100]=some (Y8 IL 100).D9:=A4v r2 m2 (by rw[B1K];omega) a2 100 (by omega);have ep:IL.D9=.agg ((.int .i64 16)::(LP (zz5 ((.int .i64 1)::(KG (KG [.list 7 [],.list 16 [.agg ((.int .i64 2)::(LP (bz []))),.agg ((.int .i64 5)::(.int .i64 4)::(.int .i64 6)::(.str ⟨#[]⟩)::(bz []))]])))))):=by simp[IL,LC,Ex.O4,Z5]
 rw[ep]at h3;have two:C9.p cu [.int .i64 9,.agg [.int .i64 6,.int .i64 0,.list 3 []],.agg [.int .i64 6,.int .i64 0,.list 3 []]]=some (Ty.mk 9 0 [.mk 6 0 [],.mk 6 0 []]).D9:=by
  have e:DV.agg [.int .i64 6,.int .i64 0,.list 3 []]=(Ty.mk 6 0 []).D9:=by rw[Ty.O4];rfl
  rw[e];exact B0p 9 (.mk 6 0 []) (.mk 6 0 [])
 obtain⟨e1,e2,e3,e4⟩:=B8M;obtain⟨p1,p2⟩:=B6Z;have th:(Y8 M_ 100).ty.thin=true:=by rw[e3];exact Ty.Hm (by simp[Ty.size_eq,R9])
 have ks:=bW (Y8 M_ 100).ty th (Y8 M_ 100).ty;simp only[B2d,I6,h1,A13,A14,A15,B0f,A87,F8,h2,h3];rw[A1n,e1,p1,p2,B7W];have n0:D7 .eql (iN 0) (.int .i64 0)=some (.bool true):=rfl;have n4:D7 .eql (iN 4) (.int .i64 4)=some (.bool true):=rfl;have n7:D7 .eql (iN 7) (.int .i64 7)=some (.bool true):=rfl;have n1:D7 .eql (iN 1) (.int .i64 1)=some (.bool true):=rfl;have dq:=B35 ⟨4,6,4,4,1,Z5⟩;have bq:(⟨4,6,4,4,1,Z5⟩:GY).D9=DV.agg [.int .i64 4,.int .i64 6,.int .i64 4,.int .i64 4,.int .i64 1,.str ⟨#[]⟩]:=rfl;rw[bq]at dq;rw[<- e3]at two;simp only[n0,I6,Q4,F6,two,B4t,ks,K3,B8a,A1Q,e4,n1,A0Y,e2,n7,n4,B34];rw[bq,dq];rfl
end Go.Su

/-
 The law InferLimits answers true on data.
-/
namespace Go.Su
set_option linter.defProp false
def B8q(a:Nat):D7 .eql (iN a) (iI 7)=some (.bool (decide (a=7))):=Nw a 7
def B6R(a:Nat):D7 .neq (iN a) (iI 0)=some (.bool (!decide (a=0))):=Vv a 0
def B7v{a:Nat}(h:1<=a)(h2:a<2 ^ 62):D7 .sub (iN a) (iI 1)=some (iN (a-1)):=by
 have e:IntKind.i64.wrap ((a:Int)-1)=((a-1:Nat):Int):=by rw[Go.IntWalk.i64_in _ ⟨by omega,by omega⟩];omega
 simp[iN,D7,KT,MO,e]
def B6a{d:J6}:Sj d->d.fit:=by
 induction d using J6.ind with
 |h d ih=>
   intro h;obtain⟨a1,a2,a3,a4,a5⟩:(∀t∈d.types,t.size<=65536)/\d.types.length<=70000/\d.vars.length<2 ^ 29/\d.D6.length<=70000/\∀k∈d.D6,Sj k:=by cases h with | mk _ a1 a2 a3 a4 a5=>exact⟨a1,a2,a3,a4,a5⟩
   rw[J6.B1f];exact⟨by unfold R9;omega,by unfold R9;omega,by unfold R9;omega,λt ht=>(kg (a1 t ht)).1,λk hk=>ih k hk (a5 k hk)⟩
def A9Q(e:Ex)(x y:Int)(hm:e.Y0<=1048576):C9.p YU [e.D9,iI x,iI y]=some (.bool true):=by
 have ft:e.fit:=Ex.aP (by omega);refine(qZ _ _ _).trans ?_;rw[rq];obtain⟨b,h1,h2⟩:=A37 e ft (by unfold R9;omega);simp only[AJ,F8,N_,h1,I6,Q4];cases b with
 |true=>simp
 |false=>
   obtain⟨hs,hA⟩:=h2 rfl;simp only[z1q,G8,A63 e ft,I6,U1,F3]
   by_cases hr:e.right=true
   ·obtain⟨a,ha,ka⟩:=xZ x 2000 (by omega) (by unfold R9;omega);obtain⟨c,hc,kc⟩:=xZ y 2000 (by omega) (by unfold R9;omega);have ka':C9.p QT [iI x,iI 2000]=some (iN a):=ka;have kc':C9.p QT [iI y,iI 2000]=some (iN c):=kc;have Vt:e.Y0<2 ^ 28:=by omega
    have R:=λ{n:Nat}(hn:n<=65536)=>A4v hr Vt hs hA n hn;simp only[hr,zbq,z1q,G8,ka',kc',I6,R (show a<=65536 by omega),A4g (show a+c<2 ^ 62 by omega),R (show a+c<=65536 by omega),A13,A14,A15,B0f,A87,F8,B8q]
    have L:=y_ hr (by omega) (Nat.le_add_right a c) (by omega);by_cases e7:(Y8 e a).err=7
    ·have g:=L.2 e7;simp only[e7,K3,F3,F6,B6R,I6,Q4,iK,A0Y]
     by_cases g0:(Y8 e (a+c)).err=0
     ·have g1:a<(Y8 e (a+c)).cnt:=by
       rcases g with g | g
       ·exact absurd g0 g
       ·exact g
      have gt:D7 .gtr (iN (Y8 e (a+c)).cnt) (iN a)=some (.bool true):=by rw[iN,iN,EQ];simp;exact g1
      simp[g0,gt,I6]
     ·simp[g0]
    ·have eq:=L.1 e7;obtain⟨z1,z2⟩:=B3z hr (show e.size<2 ^ 29 by omega) (show a<=65536 by omega);have ks:=bW (Y8 e a).ty (kg z1).1 (Y8 e a).ty;have kd:=A2b (Y8 e a).dv (B6a z2) (Y8 e a).dv;simp only[e7,R5,F3,z1q,G8];rw[lZ,eq];simp only[Vv,K3,zbq,I6,Q4,z1q,G8,B34,B35,B4t,B79,ks,kd,U1,A0Y,F3,B6R,iK]
     by_cases e0:(Y8 e a).err=0
     ·obtain⟨c1,c2⟩:=A6B hr (show e.size<2 ^ 29 by omega) (show a<=65536 by omega) e0;simp only[e0,K3,zbq,z1q,G8];rw[jK];have sb:=B7v c1 (show(Y8 e a).cnt<2 ^ 62 by omega);have le:D7 .leq (iN (Y8 e a).cnt) (iN a)=some (.bool true):=by rw[iN,iN,NL];simp;exact c2
      have q0:(Y8 e (Y8 e a).cnt).err=0:=by
       have L':=y_ hr (show e.size<2 ^ 29 by omega) c2 (show a<=65536 by omega);by_cases g7:(Y8 e (Y8 e a).cnt).err=7
       ·rcases L'.2 g7 with g | g
        ·exact absurd e0 g
        ·omega
       ·rw[<- L'.1 g7];exact e0
      have q7:(Y8 e ((Y8 e a).cnt-1)).err=7:=by
       have L':=y_ hr (show e.size<2 ^ 29 by omega) (show(Y8 e a).cnt-1<=a by omega) (show a<=65536 by omega);by_cases g7:(Y8 e ((Y8 e a).cnt-1)).err=7
       ·exact g7
       ·exfalso;have:=L'.1 g7;have c3:=A6B hr (show e.size<2 ^ 29 by omega) (show(Y8 e a).cnt-1<=65536 by omega) (by rw[<- this];exact e0);rw[<- this]at c3;omega
      simp only[A0Y,N_,R (show(Y8 e a).cnt<=65536 by omega),I6,A13,A14,A15,B0f,A87,F8,sb,R (show(Y8 e a).cnt-1<=65536 by omega),le,Q4,F6,q0,q7,iK]
      simp[iN]
     ·simp[e0]
   ·simp[hr]
end Go.Su
