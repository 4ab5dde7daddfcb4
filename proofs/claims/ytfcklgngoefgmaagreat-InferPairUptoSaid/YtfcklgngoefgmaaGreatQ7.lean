/-
  Parts of the proof, merged: TN16, TN17, TN18, TN19, TN20, TN21, TN22, TN23, W15, LInferPair.
-/
import Derived.Test.YtfcklgngoefgmaaGreatQ4
import Derived.Test.YtfcklgngoefgmaaGreatQ5
import Derived.Test.YtfcklgngoefgmaaGreatQ6
set_option linter.defProp false
set_option linter.unusedSectionVars false
set_option linter.unusedSimpArgs false
set_option linter.unusedVariables false
open Bool renaming false_eq_true → z1q, not_true → zbq, not_false → zhq, and_eq_true → zBq, true_and → zCq
open Int renaming ofNat_eq_natCast → ztq
open List renaming getD_cons_zero → z0q, drop_eq_getElem_cons → z2q, getElem_mem → z3q, length_nil → z4q, drop_of_length_le → z5q, take_succ_eq_append_getElem → z6q, drop_zero → z7q, length_cons → z9q, length_drop → zcq, take_of_length_le → zdq, mem_cons_of_mem → zfq, mem_iff_getElem → zgq, map_cons → ziq, not_mem_nil → zjq, mem_cons_self → zkq, getElem?_append_left → zlq, map_nil → zmq, mem_cons → znq, mem_singleton → zoq, length_append → zpq, length_map → zqq, map_append → zrq, sum_cons → zsq, mem_of_mem_drop → zuq, length_take → zvq, mem_map_of_mem → zwq, set_set → zxq, getElem_tail → zyq, length_tail → zzq, getElem_zip → zAq, getElem_zipWith → zEq, getElem?_set_ne → zFq, length_zipWith → zGq, idxOf_append → zHq, length_zip → zIq
open Nat renaming le_trans → z8q, le_refl → zaq, lt_irrefl → zeq, add_le_add_right → zDq
namespace Go.Su
section
variable {b i t p j:Nat}{g:Bool}{w:W}{sg:List E5}{R:Rec}{e:Ex}{A8:Nat}{l:List EN}(s:ByteArray)
theorem B5D(n:Nat)(vs:List Nat):DV.agg [.str s,iN n,.list 1 (vs.map iN)]=(⟨s,n,vs⟩:EN).D9:=rfl
def A71(l:List EN)(s:ByteArray)(n:Nat)(vs:List Nat)(hl:l.length<2 ^ 30)(sg:List E5):C9.r DK [(.list 3 (l.map EN.D9),.val),(.list 3 [(⟨s,n,vs⟩:EN).D9],.val)] sg=some ([.list 3 ((l++[(⟨s,n,vs⟩:EN)]).map EN.D9)],sg):=A28 l [⟨s,n,vs⟩] (by simp;omega) sg
def lC(A:Fz b i t p j)(h:BR g b i t p j w sg)(I:j5 w)(hi:1<e.D5.length)(K1:Px b i t R A8 (l.length+1) (e.kd 1))(hE:Z5 w.s.l.length l)(hV:EV l)(Ho:w.D5.length<2 ^ 30){n:Nat}{vs:List Nat}(hn:n<w.s.l.length)(hv:∀x∈vs,x<w.s.l.length)(hvl:vs.length<2 ^ 29)(hr:(J2 R w (e.kd 1) A8 (l++[⟨e.name,n,vs⟩])).1.s.J8+10<2 ^ 62):
 UM g b i t p j sg (DC C9 t (iN A8) (.list 3 (l.map EN.D9)) p e.D9 (.str e.name) (iN n) (.list 1 (vs.map iN)) sg) [iN (J2 R w (e.kd 1) A8 (l++[⟨e.name,n,vs⟩])).2] (J2 R w (e.kd 1) A8 (l++[⟨e.name,n,vs⟩])).1 /\
 UM g b i t p j sg (JA C9 t (iN A8) (.list 3 (l.map EN.D9)) p e.D9 (.str e.name) (iN n) (.list 1 (vs.map iN)) sg) [iN (J2 R w (e.kd 1) A8 (l++[⟨e.name,n,vs⟩])).2] (J2 R w (e.kd 1) A8 (l++[⟨e.name,n,vs⟩])).1:=by
 have ms:=K1.ms;have wl:=A71 l e.name n vs (by omega) sg;obtain⟨s1,e1,m1,k1⟩:=Fh (idx:=1) A h I hi (l:=l++[⟨e.name,n,vs⟩]) (K1.le (zaq _) (by simp)) (hE.app λx hx=>by rw[zoq.1 hx];exact⟨hn,hv⟩) (hV.app λx hx=>by rw[zoq.1 hx];exact hvl) Ho hr;constructor
 ·refine⟨s1,?_,m1,k1⟩;rw[iB];simp only[B5D,wl,I7,z0q,NJ,show(DV.int .i64 1)=iN 1 from rfl,e1]
 ·refine⟨s1,?_,m1,k1⟩;rw[jg];simp only[B5D,wl,I7,z0q,NJ,show(DV.int .i64 1)=iN 1 from rfl,e1]
def B1M(e:Ex):DV.agg [C8 8 e.D9,C8 9 e.D9,C8 10 e.D9]=e.a.D9/\DV.agg [C8 11 e.D9,C8 12 e.D9,C8 13 e.D9]=e.b.D9:=by simp[Ty.AA,Ty.ag]
def B85(A:Fz b i t p j)(h:BR g b i t p j w sg)(I:j5 w)(hk:e.D5.length=2)(VR:e.right=true)(BN:(e.kd 0).fit)(hza:e.a.size<2 ^ 40)(YM:e.a.thin=true)(K0:Px b i t R (A8+1) (l.length+1) (e.kd 0))(K1:Px b i t R A8 (l.length+1) (e.kd 1))(hE:Z5 w.s.l.length l)(hV:EV l)(Ho:w.D5=[])(hr:(Ry R w e A8 l).1.s.J8+10<2 ^ 62):
 UM g b i t p j sg (C9.r Kn [(.undef,.ptr t 0),(e.D9,.val),(iN A8,.val),(.list 3 (l.map EN.D9),.val),(.undef,.ptr p 0)] sg) [iN (Ry R w e A8 l).2] (Ry R w e A8 l).1:=by
 have start:=(nO t e.D9 (iN A8) (.list 3 (l.map EN.D9)) p sg).trans (rF _ _ _ _ _ _ _);have na:=(Ex.lG VR).1;have rk:(e.kd 0).right=true:=Ex.Bf VR (Ex.CR (by omega));have Kz:=K0.le (lev':=A8) (n':=l.length) (by omega) (by omega);have sz0:=K0.sz;have pv:I9 (C8 3 e.D9)=true/\C8 3 e.D9=.str e.name:=⟨by rw[Ex.MO];rfl,Ex.MO e⟩;have p8:D7 .neq (C8 8 e.D9) (iN 0)=some (.bool (!decide (e.a.E8=0))):=by rw[Ex.B1l,iN,Dz];rfl
 simp only[AF,F8,pv.1,p8,NJ,(B1M e).1,VS (show 0<e.D5.length by omega),I7,F3,A4Z _ BN,rk,zCq,show(DV.int .i64 0)=iN 0 from rfl,addN (show A8<2 ^ 62 by omega)]at start;rw[pv.2]at start;unfold Ry at hr ⊢;by_cases ka:e.a.E8=0
 ·rw[A7 (λh=>h ka)]at hr ⊢;simp only[ka,J9,zbq,z1q,G9]at start;by_cases kv:(e.kd 0).value=true
  ·rw[A9 kv]at hr start ⊢;simp only at hr ⊢;obtain⟨a1,a2⟩:=U4 (w:=w) (l:=l) K0.good K0.sz I hE;have ak:=TC R w (e.kd 0) (A8+1) l;have Pa:=Fh (g:=g) (l:=l) A h I (idx:=0) (by omega) (K0.le (zaq _) (by omega)) hE hV (by rw[Ho];simp);generalize J2 R w (e.kd 0) (A8+1) l=a at a1 a2 ak Pa hr ⊢;rw[Ho]at ak;simp only[z4q]at ak;by_cases ge:a.1.err=0
   ·rw[A7 (λh=>h ge)]at hr ⊢;have rr:=(U4 (R:=R) (A8:=A8) (l:=l++[⟨e.name,a.2,(a.1.above a.2 A8).2⟩]) K1.good K1.sz (Hz (BS a1.i (n:=a.2) (A8:=A8) a2).1 (BS a1.i (n:=a.2) (A8:=A8) a2).2).i ((hE.mono (a1.ext.trans (BS a1.i (n:=a.2) (A8:=A8) a2).1.ext).le).app λx hx=>by rw[zoq.1 hx];exact⟨(BS a1.i (n:=a.2) (A8:=A8) a2).1.lt a2,(BS a1.i (n:=a.2) (A8:=A8) a2).2.1⟩)).1.ext.J8;obtain⟨c1,c2,cl⟩:=BS a1.i (n:=a.2) (A8:=A8) a2;have ra:(a.1.above a.2 A8).1.s.J8=a.1.s.J8+1:=rfl;have rv:((a.1.above a.2 A8).1.RU (a.1.above a.2 A8).2).s=(a.1.above a.2 A8).1.s:=rfl;rw[rv]at rr;obtain⟨s1,e1,m1,k1⟩:=Pa (by omega);obtain⟨s2,e2,m2,k2⟩:=A7Q m1 A a1.i.ok (by omega) a2 A8;obtain⟨c,u,x1,x2,m3,k3⟩:=A7A m2 A (a.1.above a.2 A8).2;have v:=Hz c1 ⟨c2,cl⟩;obtain⟨s4,e4,m4,k4⟩:=(lC (e:=e) (l:=l) A m3 v.i (by omega) K1 (hE.mono (a1.trans v).ext.le) hV (by simp only[A1u,wZ];omega) (v.lt a2) c2 cl hr).1;simp only[e1,I7,z0q,P5,F8,JS m1.t,ge,J9,F3,F6,e2,XX,x1,x2,e4]at start;exact⟨s4,start,m4,k1.trans ((ES k2).trans (k3.trans k4))⟩
   ·rw[A9 ge]at hr ⊢;have rr:=(U4 (R:=R) (A8:=A8) (l:=l++[⟨e.name,a.2,[]⟩]) K1.good K1.sz a1.i ((hE.mono a1.ext.le).app (Z5.one a2))).1.ext.J8;obtain⟨s1,e1,m1,k1⟩:=Pa (by omega);obtain⟨s4,e4,m4,k4⟩:=(lC (e:=e) (l:=l) A m1 a1.i (by omega) K1 (hE.mono a1.ext.le) hV (by omega) a2 (vs:=[]) (by simp) (by simp) hr).1;simp only[zmq]at e4;simp only[e1,I7,z0q,P5,F8,JS m1.t,ge,T9,F3,z1q,G9,e4]at start;exact⟨s4,start,m4,k1.trans k4⟩
  ·rw[A7 kv]at hr ⊢;have kv':(e.kd 0).value=false:=by simpa using kv
   rw[kv']at start;simp only[z1q,G9]at hr start ⊢;obtain⟨a1,a2⟩:=U4 (w:=w) (l:=l) Kz.good Kz.sz I hE;have ak:=TC R w (e.kd 0) A8 l;have Pa:=Fh (g:=g) (l:=l) A h I (idx:=0) (by omega) Kz hE hV (by rw[Ho];simp);generalize J2 R w (e.kd 0) A8 l=a at a1 a2 ak Pa hr ⊢;rw[Ho]at ak;simp only[z4q]at ak;have rr:=(U4 (R:=R) (A8:=A8) (l:=l++[⟨e.name,a.2,[]⟩]) K1.good K1.sz a1.i ((hE.mono a1.ext.le).app (Z5.one a2))).1.ext.J8;obtain⟨s1,e1,m1,k1⟩:=Pa (by omega);obtain⟨s4,e4,m4,k4⟩:=(lC (e:=e) (l:=l) A m1 a1.i (by omega) K1 (hE.mono a1.ext.le) hV (by omega) a2 (vs:=[]) (by simp) (by simp) hr).1;simp only[zmq]at e4;simp only[e1,I7,z0q,P5,F8,e4]at start;exact⟨s4,start,m4,k1.trans k4⟩
 ·rw[A9 ka]at hr ⊢;simp only[ka,T9,zhq,F6]at hr start ⊢;obtain⟨a1,a2⟩:=U4 (w:=w) (l:=l) Kz.good Kz.sz I hE;have ak:=TC R w (e.kd 0) A8 l;have Pa:=Fh (g:=g) (l:=l) A h I (idx:=0) (by omega) Kz hE hV (by rw[Ho];simp);generalize J2 R w (e.kd 0) A8 l=a at a1 a2 ak Pa hr ⊢;rw[Ho]at ak;simp only[z4q]at ak;obtain⟨n1,n2⟩:=Qf a1.i (na ka);have nk:=B0Y a.1 e.a;have Pn:=λsg' (h':BR g b i t p j a.1 sg')=>A24 h' A a1.i.ok (na ka) hza YM;generalize a.1.put e.a=n at n1 n2 nk Pn hr ⊢;have g1:=U3 n1.i (a:=a.2) (b:=n.2) (n1.lt a2) n2 (e.kd 0);have gk:=Gb n.1 a.2 n.2 (e.kd 0);have Pg:=λsg' (h':BR g b i t p j n.1 sg')=>DY h' A n1.i.ok (x:=a.2) (y:=n.2) (n1.lt a2) n2 (e.kd 0);generalize n.1.agree a.2 n.2 (e.kd 0)=w1 at g1 gk Pg hr ⊢;have ag:=(a1.trans n1).trans g1;have rr:=(U4 (R:=R) (A8:=A8) (l:=l++[⟨e.name,n.2,[]⟩]) K1.good K1.sz g1.i ((hE.mono ag.ext.le).app (Z5.one (g1.lt n2)))).1.ext.J8;have r1:=n1.ext.J8;have r2:=g1.ext.J8;obtain⟨s1,e1,m1,k1⟩:=Pa (by omega);obtain⟨s2,e2,m2,k2⟩:=Pn s1 m1;obtain⟨s3,e3,m3,k3⟩:=Pg s2 m2 (by omega);obtain⟨s4,e4,m4,k4⟩:=(lC (e:=e) (l:=l) A m3 g1.i (by omega) K1 (hE.mono ag.ext.le) hV (by rw[gk,nk];omega) (g1.lt n2) (vs:=[]) (by simp) (by simp) hr).1;simp only[zmq]at e4;simp only[e1,I7,z0q,P5,F8,e2,e3,e4]at start;exact⟨s4,start,m4,k1.trans ((ES k2).trans ((ES k3).trans k4))⟩
def B88(A:Fz b i t p j)(h:BR true b i t p j w sg)(I:j5 w)(hk:e.D5.length=2)(VR:e.right=true)(hza:e.a.size<2 ^ 40)(YM:e.a.thin=true)(hzb:e.b.size<2 ^ 40)(C0p:e.b.thin=true)(K0:Px b i t R (A8+1) (l.length+2) (e.kd 0))(K1:Px b i t R A8 (l.length+1) (e.kd 1))(hE:Z5 w.s.l.length l)(hV:EV l)(Ho:w.D5=[])(htl:w.types=[])(hr:(SA R w e A8 l).1.s.J8+10<2 ^ 62):
 UM true b i t p j sg (C9.r Ko [(.undef,.ptr t 0),(e.D9,.val),(iN A8,.val),(.list 3 (l.map EN.D9),.val),(.undef,.ptr p 0)] sg) [iN (SA R w e A8 l).2] (SA R w e A8 l).1:=by
 have start:=(nQ t e.D9 (iN A8) (.list 3 (l.map EN.D9)) p sg).trans (rH _ _ _ _ _ _ _);have na:=(Ex.lG VR).1;have nb:=Ex.A1H VR;have sz0:=K0.sz;have c3:I9 (C8 3 e.D9)=true:=by rw[Ex.MO];rfl
 have c4:I9 (C8 4 e.D9)=true:=by rw[Ex.fq];rfl
 simp only[AF,F8,c3,c4,NJ,(B1M e).1,(B1M e).2,VS (show 0<e.D5.length by omega),addN (show A8<2 ^ 62 by omega),I7,show(DV.int .i64 0)=iN 0 from rfl,show(DV.int .i64 9)=iN 9 from rfl]at start;rw[Ex.MO,Ex.fq]at start;have lb:A8+1<2 ^ 31:=by omega
 unfold SA at hr ⊢;simp only at hr ⊢;obtain⟨p1,p2⟩:=RF I (A8:=A8+1) na lb;have pk:=kg w e.a (A8+1);have pt:(w.Y0 e.a (A8+1)).1.types.length<=1:=by
  unfold W.Y0;split
  ·unfold W.put;split<;>simp[htl,Sa]
  ·simp[W.tell,yU,htl]
 obtain⟨s1,e1,m1,k1⟩:=A0u h A I.ok na hza YM (A8+1) (by rw[htl];simp);generalize w.Y0 e.a (A8+1)=pp at p1 p2 pk pt e1 m1 hr ⊢;obtain⟨r1,r2⟩:=RF p1.i (A8:=A8+1) nb lb;have rk:=kg pp.1 e.b (A8+1);obtain⟨s2,e2,m2,k2⟩:=A0u m1 A p1.i.ok nb hzb C0p (A8+1) (by omega);generalize pp.1.Y0 e.b (A8+1)=r at r1 r2 rk e2 m2 hr ⊢;obtain⟨f1,f2⟩:=EF r1.i (k:=9) (x:=pp.2) (y:=r.2) (.inr (.inr rfl)) (r1.lt p2) (λ_=>r2);have fk:=kZ r.1 9 pp.2 r.2;obtain⟨s3,e3,m3,k3⟩:=XK m2 A r1.i.ok (k:=9) (x:=pp.2) (y:=r.2) (.inr (.inr rfl)) (r1.lt p2) (λ_=>r2);generalize r.1.made 9 pp.2 r.2=f at f1 f2 fk e3 m3 hr ⊢;have pf:=(p1.trans r1).trans f1;have hE2:Z5 f.1.s.l.length (l++[⟨e.name,f.2,[]⟩,⟨e.arg,pp.2,[]⟩]):=(hE.mono pf.ext.le).app λx hx=>by
  simp only[znq,zjq,or_false]at hx;rcases hx with rfl | rfl
  ·exact⟨f2,by simp⟩
  ·exact⟨f1.lt (r1.lt p2),by simp⟩
 have hV2:EV (l++[⟨e.name,f.2,[]⟩,⟨e.arg,pp.2,[]⟩]):=hV.app λx hx=>by simp only[znq,zjq,or_false]at hx;rcases hx with rfl | rfl<;>simp
 obtain⟨b1,b2⟩:=U4 (w:=f.1) (l:=l++[⟨e.name,f.2,[]⟩,⟨e.arg,pp.2,[]⟩]) K0.good K0.sz f1.i hE2;have bk:=TC R f.1 (e.kd 0) (A8+1) (l++[⟨e.name,f.2,[]⟩,⟨e.arg,pp.2,[]⟩]);have k0l:f.1.D5.length=0:=by rw[fk,rk,pk,Ho];rfl
 have Pb:=Fh (l:=l++[⟨e.name,f.2,[]⟩,⟨e.arg,pp.2,[]⟩]) A m3 f1.i (idx:=0) (by omega) (K0.le (zaq _) (by simp)) hE2 hV2 (by omega);generalize J2 R f.1 (e.kd 0) (A8+1) (l++[⟨e.name,f.2,[]⟩,⟨e.arg,pp.2,[]⟩])=q at b1 b2 bk Pb hr ⊢;have g1:=U3 b1.i (a:=q.2) (b:=r.2) b2 (b1.lt (f1.lt r2)) (e.kd 0);have gk:=Gb q.1 q.2 r.2 (e.kd 0);have Pg:=λsg' (h':BR true b i t p j q.1 sg')=>DY h' A b1.i.ok (x:=q.2) (y:=r.2) b2 (b1.lt (f1.lt r2)) (e.kd 0);generalize q.1.agree q.2 r.2 (e.kd 0)=w1 at g1 gk Pg hr ⊢;have pg:=(pf.trans b1).trans g1;have fl:=g1.lt (b1.lt f2);have ra:=g1.ext.J8;have kw:w1.D5.length<2 ^ 30:=by rw[gk];omega
 have wl:=A28 l [⟨e.name,f.2,[]⟩,⟨e.arg,pp.2,[]⟩] (by have:=K1.ms;simp;omega) s3;have wl':C9.r DK [(.list 3 (l.map EN.D9),.val),(.list 3 [.agg [.str e.name,iN f.2,.list 1 []],.agg [.str e.arg,iN pp.2,.list 1 []]],.val)] s3=_:=wl;by_cases ge:w1.err=0
 ·rw[A7 (λh=>h ge)]at hr ⊢;obtain⟨c1,c2,cl⟩:=BS g1.i (n:=f.2) (A8:=A8) fl;have v:=Hz c1 ⟨c2,cl⟩;have rr:=(U4 (R:=R) (A8:=A8) (l:=l++[⟨e.name,f.2,(w1.above f.2 A8).2⟩]) K1.good K1.sz v.i ((hE.mono (pg.trans v).ext.le).app λx hx=>by rw[zoq.1 hx];exact⟨v.lt fl,c2⟩)).1.ext.J8;have rv:((w1.above f.2 A8).1.RU (w1.above f.2 A8).2).s.J8=w1.s.J8+1:=rfl;rw[rv]at rr;obtain⟨s4,e4,m4,k4⟩:=Pb (by omega);obtain⟨s5,e5,m5,k5⟩:=Pg s4 m4 (by omega);obtain⟨s6,e6,m6,k6⟩:=A7Q m5 A g1.i.ok (by omega) fl A8;obtain⟨c,u,x1,x2,m7,k7⟩:=A7A m6 A (w1.above f.2 A8).2;obtain⟨s8,e8,m8,k8⟩:=(lC (e:=e) (l:=l) A m7 v.i (by omega) K1 (hE.mono (pg.trans v).ext.le) hV (by simp only[A1u,wZ];exact kw) (v.lt fl) c2 cl hr).2;simp only[e1,I7,z0q,e2,e3,P5,F8,wl',e4,e5,JS m5.t,ge,J9,F3,F6,e6,XX,x1,x2,e8]at start;exact⟨s8,start,m8,(k1.trans k2).trans (((ES k3).trans k4).trans (((ES k5).trans (ES k6)).trans (k7.trans k8)))⟩
 ·rw[A9 ge]at hr ⊢;have rr:=(U4 (R:=R) (A8:=A8) (l:=l++[⟨e.name,f.2,[]⟩]) K1.good K1.sz g1.i ((hE.mono pg.ext.le).app (Z5.one fl))).1.ext.J8;obtain⟨s4,e4,m4,k4⟩:=Pb (by omega);obtain⟨s5,e5,m5,k5⟩:=Pg s4 m4 (by omega);obtain⟨s8,e8,m8,k8⟩:=(lC (e:=e) (l:=l) A m5 g1.i (by omega) K1 (hE.mono pg.ext.le) hV kw fl (vs:=[]) (by simp) (by simp) hr).2;simp only[zmq]at e8;simp only[e1,I7,z0q,e2,e3,P5,F8,wl',e4,e5,JS m5.t,ge,T9,F3,z1q,G9,e8]at start;exact⟨s8,start,m8,(k1.trans k2).trans (((ES k3).trans k4).trans ((ES k5).trans k8))⟩
def B7f(A:Fz b i t p j)(h:BR g b i t p j w sg)(I:j5 w)(hk:e.D5.length=3)(K0:Px b i t R A8 l.length (e.kd 0))(K1:Px b i t R A8 l.length (e.kd 1))(K2:Px b i t R A8 l.length (e.kd 2))(hE:Z5 w.s.l.length l)(hV:EV l)(Ho:w.D5=[])(hr:(ML R w e A8 l).1.s.J8+10<2 ^ 62):
 UM false b i t p j sg (C9.r KD [(.undef,.ptr t 0),(e.D9,.val),(iN A8,.val),(.list 3 (l.map EN.D9),.val),(.undef,.ptr p 0)] sg) [iN (ML R w e A8 l).2] (ML R w e A8 l).1:=by
 have start:=(kF t e.D9 (iN A8) (.list 3 (l.map EN.D9)) p sg).trans (mX _ _ _ _ _ _ _);simp only[AF,F8,NJ,show(DV.int .i64 0)=iN 0 from rfl,show(DV.int .i64 1)=iN 1 from rfl,show(DV.int .i64 2)=iN 2 from rfl,VS (show 0<e.D5.length by omega),VS (show 1<e.D5.length by omega),VS (show 2<e.D5.length by omega)]at start;obtain⟨c1,c2⟩:=U4 K0.good K0.sz I hE;have ck:=TC R w (e.kd 0) A8 l;have Pc:=Fh (g:=g) A h I (idx:=0) (by omega) K0 hE hV (by rw[Ho];simp);unfold ML at hr ⊢;simp only at hr ⊢;generalize J2 R w (e.kd 0) A8 l=c at c1 c2 ck Pc hr ⊢;rw[Ho]at ck;simp only[z4q]at ck;have f5:=c1.i.ok.five;have g0:=U3 c1.i (a:=c.2) (b:=1) c2 (by omega) (e.kd 0);have gk:=Gb c.1 c.2 1 (e.kd 0);have P0:=λsg' (h':BR g b i t p j c.1 sg')=>DY h' A c1.i.ok (x:=c.2) (y:=1) c2 (by omega) (e.kd 0);have cg:=c1.trans g0;generalize c.1.agree c.2 1 (e.kd 0)=w0 at g0 cg gk P0 hr ⊢;obtain⟨a1,a2⟩:=U4 K1.good K1.sz g0.i (hE.mono cg.ext.le);have ak:=TC R w0 (e.kd 1) A8 l;have Pa:=λsg' (h':BR g b i t p j w0 sg')=>Fh (g:=g) A h' g0.i (idx:=1) (by omega) K1 (hE.mono cg.ext.le) hV (by rw[gk];omega);generalize J2 R w0 (e.kd 1) A8 l=a at a1 a2 ak Pa hr ⊢;have ca:=cg.trans a1;obtain⟨b1,b2⟩:=U4 K2.good K2.sz a1.i (hE.mono ca.ext.le);have Pb:=λsg' (h':BR g b i t p j a.1 sg')=>Fh (g:=g) A h' a1.i (idx:=2) (by omega) K2 (hE.mono ca.ext.le) hV (by rw[gk]at ak;omega);generalize J2 R a.1 (e.kd 2) A8 l=q at b1 b2 Pb hr ⊢;have lb:A8<2 ^ 31:=by have:=K0.sz;omega
 obtain⟨v1,v2⟩:=Ab b1.i lb;have Pv:=λsg' (h':BR g b i t p j q.1 sg')=>OD h' A b1.i.ok A8;generalize q.1.fresh A8=v at v1 v2 Pv hr ⊢;have t1:=Dm v1 (l:=[v.2]) (by simpa using v2);have av:=v1.lt (b1.lt a2);have g1:=U3 t1.i (a:=a.2) (b:=v.2) av v2 (e.kd 1);have Pg:=λsg' (h':BR false b i t p j (v.1.Y1 [v.2]) sg')=>DY h' A t1.i.ok (x:=a.2) (y:=v.2) av v2 (e.kd 1);generalize (v.1.Y1 [v.2]).agree a.2 v.2 (e.kd 1)=w1 at g1 Pg hr ⊢;have bv:=g1.lt (v1.lt b2);have g2:=U3 g1.i (a:=q.2) (b:=v.2) bv (g1.lt v2) (e.kd 2);have r0:=g0.ext.J8;have ra:=a1.ext.J8;have rb:=b1.ext.J8;have rv:=v1.ext.J8;have r1:=g1.ext.J8;have r2:=g2.ext.J8;have rt:(v.1.Y1 [v.2]).s=v.1.s:=rfl;rw[rt]at r1;have hr:(w1.agree q.2 v.2 (e.kd 2)).s.J8+10<2 ^ 62:=hr;obtain⟨s1,e1,m1,k1⟩:=Pc (by omega);obtain⟨s2,e2,m2,k2⟩:=P0 s1 m1 (by omega);obtain⟨s3,e3,m3,k3⟩:=Pa s2 m2 (by omega);obtain⟨s4,e4,m4,k4⟩:=Pb s3 m3 (by omega);obtain⟨s5,e5,m5,k5⟩:=Pv s4 m4;obtain⟨cc,u,x1,x2,m6,k6⟩:=f_ m5 A [v.2];obtain⟨s7,e7,m7,k7⟩:=Pg _ m6 (by omega);obtain⟨s8,e8,m8,k8⟩:=DY m7 A g1.i.ok (x:=q.2) (y:=v.2) bv (g1.lt v2) (e.kd 2) hr;simp only[ziq,zmq]at e7;simp only[e1,I7,z0q,NJ,e2,e3,e4,e5,P5,F8,x1,x2,e7,e8]at start;exact⟨s8,start,m8,(k1.trans (ES k2)).trans ((k3.trans k4).trans (((ES k5).trans k6).trans ((ES k7).trans (ES k8))))⟩
end
section
variable {b i t p j:Nat}{g:Bool}{R:Rec}{e:Ex}{A8:Nat}{l:List EN}
def KU.into{w:W}{sg K4:List E5}{S:E9}(h:BR g b i t p j w sg)(A:Fz b i t p j)(k:Kp b i sg K4)(a:Y7 b i S K4):BR g b i t p j { w with s:=S } K4:=⟨h.t.kp k a,h.d.kx A k.k3 rfl rfl rfl⟩
def B3v{w:W}{sg:List E5}(h:BR g b i t p j w sg)(A:Fz b i t p j)(e:Nat)(B:GJ):∃sg',C9.r S9 [(.undef,.ptr t 0),(iN e,.val),(B.D9,.val)] sg=some ([],sg')/\BR g b i t p j (w.fails e B) sg'/\Kx [b,i,t] sg sg':=by obtain⟨s3,e3,a3,k3⟩:=dG h.t e B;have k4:Kx [b,i,t] sg s3:=k3.more (by intro x hx;simp only[znq,zjq,or_false]at hx ⊢;omega);exact⟨s3,e3,⟨a3,h.d.kx A k4 (by unfold W.fails;split<;>rfl) (by unfold W.fails;split<;>rfl) (by unfold W.fails;split<;>rfl)⟩,k4⟩
def A0T(B:GJ):DV.agg [C8 0 B.D9,C8 1 B.D9,C8 2 B.D9,C8 3 B.D9,C8 4 B.D9,C8 5 B.D9]=B.D9/\I5 6 B.D9=true:=⟨rfl,rfl⟩
theorem B6w{v r x:Nat}{pl:DV}{nn:Nat}(names:List ByteArray)(nodes:List Nat)(hl:names.length<=nodes.length)(hn:names.length+l.length<2 ^ 30)(sg:List E5):∀(q m:Nat)(o:List EN),m+q=names.length->o.length<=l.length+m->
 Bw C9 t (iN A8) (.list 3 (l.map EN.D9)) p (iN v) (iN r) (iN x) (.list 1 (nodes.map iN)) (.list 3 (o.map EN.D9)) pl (iN nn) (iN x) (.list 1 (names.map DV.str)) (iN names.length) (iN m) e.D9 sg =
 Bw C9 t (iN A8) (.list 3 (l.map EN.D9)) p (iN v) (iN r) (iN x) (.list 1 (nodes.map iN)) (.list 3 ((o++List.zipWith (λs n=>(⟨s,n,[]⟩:EN)) (names.drop m) (nodes.drop m)).map EN.D9)) pl (iN nn) (iN x) (.list 1 (names.map DV.str)) (iN names.length) (iN names.length) e.D9 sg:=by
 intro q;induction q with
 |zero=>intro m o hm ho;rw[z5q (by omega),show m=names.length by omega];simp
 |succ q ih=>
   intro m o hm ho;have Sc:m<names.length:=by omega
   have uj:m<nodes.length:=by omega
   rw[JC,z2q Sc,z2q uj,List.zipWith_cons_cons];have i1:O0 1 (.list 1 (names.map DV.str)) (iN m)=some (.str names[m]):=V8 Sc;have ap:Dh 3 (.list 3 (o.map EN.D9)) (.list 3 [.agg [.str names[m],iN nodes[m],.list 1 []]])=some (.list 3 ((o++[(⟨names[m],nodes[m],[]⟩:EN)]).map EN.D9)):=by rw[JW (by simp[R6];omega)];simp[EN.D9]
   simp only[Ac,I7,F3,Sc,J9,F6,i1,B0X,IL uj,Ba,VT,P5,F8,ap,addN (show m<2 ^ 62 by omega)]
   rw[ih (m+1) _ (by omega) (by simp;omega),List.append_assoc];rfl
def B4W(A8:Nat):∀(pt:F5)(nd:Nat)(x:PS),x.names.length=x.nodes.length->(BA A8 pt nd x).1.names.length=(BA A8 pt nd x).1.nodes.length:=by
 have key:∀(pt:F5),(∀(nd:Nat)(x:PS),x.names.length=x.nodes.length->(BA A8 pt nd x).1.names.length=(BA A8 pt nd x).1.nodes.length):=by
  intro pt;induction pt using F5.ind with
  |h pt ih=>
    have D5:∀(ps:List F5),(∀q∈ps,q∈pt.D5)->∀(ns:List Nat)(x:PS),x.names.length=x.nodes.length->(Dk A8 ps ns x).1.names.length=(Dk A8 ps ns x).1.nodes.length:=by
     intro ps;induction ps with
     |nil=>intro _ ns x hx;rw[Dk];exact hx
     |cons q ps ihp=>
       intro hs ns x hx;have a:=ih q (hs q (zkq ..)) (ns.headD 0) x hx;rw[Dk];split
       ·exact a
       ·exact ihp (λw hw=>hs w (zfq _ hw)) ns.tail _ a
    intro nd x hx;rw[A9C];split
    ·exact hx
    ·split
     ·simp[hx]
     ·split
      ·obtain⟨m1,m2⟩:=Ol x A8 pt.lo pt.hi nd 7 2;split
       ·rw[m1,m2];exact hx
       ·exact D5 _ (λq hq=>hq) _ _ (by rw[m1,m2];exact hx)
      ·split
       ·obtain⟨m1,m2⟩:=Ol x A8 pt.lo pt.hi nd 8 1;split
        ·rw[m1,m2];exact hx
        ·exact D5 _ (λq hq=>hq) _ _ (by rw[m1,m2];exact hx)
       ·exact hx
 exact key
def B08(A:Fz b i t p j)(B8a:A8<2 ^ 30)(hk:e.D5.length=e.J7.length+1)(hK:∀x (hx:x<e.J7.length),Px b i t R A8 (l.length+e.J7[x].size) (e.kd (x+1)))(hP:∀q∈e.J7,q.right=true/\q.thin=true/\q.txt/\q.size<2 ^ 29)(VP:e.J7.length<2 ^ 29){v r:Nat}(hV:EV l)(hll:l.length<2 ^ 30):∀(q x:Nat)(w:W)(sg:List E5),x+q=e.J7.length->BR false b i t p j w sg->j5 w->Z5 w.s.l.length l->v<w.s.l.length->r<w.s.l.length->w.D5.length<=x+1->(Ci R A8 l v r ((e.J7.zip e.D5.tail).drop x) w).1.s.J8+10<2 ^ 62->
 UM false b i t p j sg (Dq C9 t (iN A8) (.list 3 (l.map EN.D9)) p (iN v) (iN r) (.list 7 (e.J7.map F5.D9)) (iN e.J7.length) (iN x) e.D9 sg) [iN (Ci R A8 l v r ((e.J7.zip e.D5.tail).drop x) w).2] (Ci R A8 l v r ((e.J7.zip e.D5.tail).drop x) w).1:=by
 have zl:(e.J7.zip e.D5.tail).length=e.J7.length:=by rw[zIq,zzq,hk];simp
 intro q;induction q with
 |zero=>intro x w sg hx h I hE hv AV Ho hr;rw[z5q (by omega),Ci,QJ];simp only[Ac,I7,F3,I6];rw[A7 (by omega)];exact⟨sg,rfl,h,Kx.refl _⟩
 |succ q ih=>
   intro x w sg hx h I hE hv AV Ho hr;have FH:x<e.J7.length:=by omega
   have hz:x<(e.J7.zip e.D5.tail).length:=by omega
   have ez:(e.J7.zip e.D5.tail)[x]=(e.J7[x],e.kd (x+1)):=by rw[zAq];congr 1;rw[zyq,Ex.ku]
   rw[z2q hz,ez,Ci]at hr ⊢;obtain⟨P1,P2,P3,P4⟩:=hP _ (z3q FH);have K:=hK x FH;have start:=QJ C9 t (iN A8) (.list 3 (l.map EN.D9)) p (iN v) (iN r) (.list 7 (e.J7.map F5.D9)) (iN e.J7.length) (iN x) e.D9 sg;simp only[Ac,I7,F3,FH,J9,F6,B5K FH,JS h.t,z0q,U2,h.t.box,Jj,A7d]at start;by_cases ge:w.err=0;rotate_left
   ·rw[A9 ge]at hr ⊢;simp only[ge,T9,zhq,F6]at start;exact⟨sg,start,h,Kx.refl _⟩
   rw[A7 (λh=>h ge)]at hr ⊢;simp only[ge,J9,zbq,z1q,G9]at start;simp only at hr ⊢;have hpp:e.J7[x].pat=true:=by unfold F5.right at P1;rw[zBq]at P1;exact P1.1
   have G:=NN (A8:=A8) (by omega) e.J7[x] v ⟨w.s,[],[],P7⟩ I.ok hv hpp;have L:=A0k A8 e.J7[x] v ⟨w.s,[],[],P7⟩;have N:=B4W A8 e.J7[x] v ⟨w.s,[],[],P7⟩ rfl;have PI:=λhh=>B69 h.t.st I.ok (A8:=A8) (by omega) P1 P2 P3 (by omega) hv hh;have hint:XW w.s A8 e.J7[x] v=BA A8 e.J7[x] v ⟨w.s,[],[],P7⟩:=rfl;rw[hint]at PI;generalize BA A8 e.J7[x] v ⟨w.s,[],[],P7⟩=z at G L N PI hr ⊢;simp only[z4q,Nat.zero_add]at L;have g0:Good w ({ w with s:=z.1.s }:W):=I.s (w':={ w with s:=z.1.s }) G.ok G.ext rfl rfl rfl;have g1:=g0.fails z.2 z.1.bad;have hs:(({ w with s:=z.1.s }:W).fails z.2 z.1.bad).s=z.1.s:=X9 ..;have EP:(({ w with s:=z.1.s }:W).fails z.2 z.1.bad).D5=w.D5:=A2K ..
   let inn:List EN:=if z.2≠0 then[]else List.zipWith (λs n=>(⟨s,n,[]⟩:EN)) z.1.names z.1.nodes
   have hE2:Z5 (({ w with s:=z.1.s }:W).fails z.2 z.1.bad).s.l.length (l++inn):=by
    refine(hE.mono g1.ext.le).app ?_;simp only[inn]
    split
    ·intro y hy;cases hy
    ·intro y hy;obtain⟨m,hm,rfl⟩:=zgq.1 hy;simp only[zGq]at hm;rw[zEq];exact⟨by rw[hs];exact G.nd (by simp) _ (z3q (by omega)),by simp⟩
   have hV2:EV (l++inn):=hV.app λy hy=>by
    simp only[inn]at hy;split at hy
    ·cases hy
    ·obtain⟨m,hm,rfl⟩:=zgq.1 hy;rw[zEq];simp
   have hil:inn.length<=e.J7[x].size:=by
    simp only[inn]
    split
    ·simp
    ·rw[zGq];omega
   have C0f:(l++if z.2≠0 then[]else List.zipWith (λs n=>(⟨s,n,[]⟩:EN)) z.1.names z.1.nodes)=l++inn:=rfl;have C0Z:∀(c:W×Nat),J2 R c.1 (e.kd (x+1)) A8 (l++if z.2≠0 then[]else List.zipWith (λs n=>(⟨s,n,[]⟩:EN)) z.1.names z.1.nodes)=J2 R c.1 (e.kd (x+1)) A8 (l++inn):=λ_=>rfl;rw[C0f]at hr ⊢;generalize hw1:({ w with s:=z.1.s }:W).fails z.2 z.1.bad=w1 at g1 hs EP hE2 hr ⊢;have Kl:=K.le (lev':=A8) (n':=(l++inn).length) (zaq _) (by rw[zpq];omega);obtain⟨b1,b2⟩:=U4 (l:=l++inn) Kl.good Kl.sz g1.i hE2;have bk:=TC R w1 (e.kd (x+1)) A8 (l++inn);have Pk:=λsg' (h':BR false b i t p j w1 sg')=>Fh (l:=l++inn) (e:=e) (idx:=x+1) A h' g1.i (by omega) Kl hE2 hV2 (by rw[EP];omega);generalize J2 R w1 (e.kd (x+1)) A8 (l++inn)=c at b1 b2 bk Pk hr ⊢;have rc:=b1.lt (g1.lt AV);have g2:=U3 b1.i (a:=c.2) (b:=r) b2 rc (e.kd (x+1));have gk:=Gb c.1 c.2 r (e.kd (x+1));have Pg:=λsg' (h':BR false b i t p j c.1 sg')=>DY h' A b1.i.ok (x:=c.2) (y:=r) b2 rc (e.kd (x+1));generalize c.1.agree c.2 r (e.kd (x+1))=w2 at g2 gk Pg hr ⊢;have gg:=(g1.trans b1).trans g2;have ar:=Tc (R:=R) (A8:=A8) (l:=l) (r:=r) (v:=v) (by omega) ((e.J7.zip e.D5.tail).drop (x+1)) w2 (λa ha=>by obtain⟨m,hm,rfl⟩:=zgq.1 (zuq ha);rw[zAq,zyq,Ex.ku];rw[zl]at hm;have Km:=hK m hm;obtain⟨q1,-⟩:=hP _ (z3q hm);unfold F5.right at q1;rw[zBq]at q1;exact⟨Km.good,Km.sz,q1.1⟩) g2.i (hE.mono gg.ext.le) (gg.lt hv) (gg.lt AV)
   have r1:=b1.ext.J8;have r2:=g2.ext.J8;have r3:=ar.1.ext.J8;rw[hs]at r1;obtain⟨s1,e1,a1,k1⟩:=PI (by omega);have M1:=KU.into h A k1 a1;obtain⟨s2,e2,m2,k2⟩:=B3v M1 A z.2 (if z.2≠0 then z.1.bad else P7);have hB:({ w with s:=z.1.s }:W).fails z.2 (if z.2≠0 then z.1.bad else P7)=w1:=by
    rw[<- hw1];by_cases gz:z.2=0
    ·unfold W.fails;rw[A7 (λh=>h.2 gz),A7 (λh=>h.2 gz)]
    ·rw[A9 gz]
   rw[hB]at m2;obtain⟨s3,e3,m3,k3⟩:=Pk s2 m2 (by omega);obtain⟨s4,e4,m4,k4⟩:=Pg s3 m3 (by omega);obtain⟨s5,e5,m5,k5⟩:=ih (x+1) w2 s4 (by omega) m4 g2.i (hE.mono gg.ext.le) (gg.lt hv) (gg.lt AV) (by rw[gk];rw[EP]at bk;omega) hr;have KK:Kx [b,i,t,p,j] sg s5:=((ES k1.k3).trans (ES k2)).trans ((k3.trans (ES k4)).trans k5);refine⟨s5,?_,m5,KK⟩;have wl:=A28 l [] (by simp;omega) s2;rw[List.append_nil]at wl;have wl':C9.r DK [(.list 3 (l.map EN.D9),.val),(.list 3 [],.val)] s2=_:=wl;have lnS:∀ns:List ByteArray,O6 (.list 1 (ns.map DV.str))=some (iN ns.length):=λns=>by simp[iN]
   have four:∀a c d f:DV,Q0 0 (.J6 [a,c,d,f])=some a/\Q0 1 (.J6 [a,c,d,f])=some c/\Q0 2 (.J6 [a,c,d,f])=some d/\Q0 3 (.J6 [a,c,d,f])=some f:=λ_ _ _ _=>⟨rfl,rfl,rfl,rfl⟩;have z0:(DV.int .i64 0)=iN 0:=rfl;have e15:=JC C9 t (iN A8) (.list 3 (l.map EN.D9)) p (iN v) (iN r) (iN x);have last:∀(names:List ByteArray)(nodes:List Nat),inn=List.zipWith (λs n=>(⟨s,n,[]⟩:EN)) names nodes->names.length<=nodes.length->names.length<=e.J7[x].size->
    Bw C9 t (iN A8) (.list 3 (l.map EN.D9)) p (iN v) (iN r) (iN x) (.list 1 (nodes.map iN)) (.list 3 (l.map EN.D9)) (.list 7 (e.J7.map F5.D9)) (iN e.J7.length) (iN x) (.list 1 (names.map DV.str)) (iN names.length) (iN 0) e.D9 s2=Dq C9 t (iN A8) (.list 3 (l.map EN.D9)) p (iN v) (iN r) (.list 7 (e.J7.map F5.D9)) (iN e.J7.length) (iN (x+1)) e.D9 s4:=by
    intro names nodes hi fG kX;have lp:=B6w (t:=t) (p:=p) (e:=e) (A8:=A8) (l:=l) (v:=v) (r:=r) (x:=x) (pl:=.list 7 (e.J7.map F5.D9)) (nn:=e.J7.length) names nodes fG (by have:=K.ms;omega) s2 names.length 0 l (by omega) (by omega);rw[z7q,z7q,<- hi]at lp;rw[lp,JC];simp only[Ac,zeq,T9,I7,F3,z1q,G9,addN (show x<2 ^ 62 by omega),NJ,e3,z0q,VS (show x+1<e.D5.length by omega),e4]
   by_cases gz:z.2=0
   ·have Io:inn=List.zipWith (λs n=>(⟨s,n,[]⟩:EN)) z.1.names z.1.nodes:=A7 (λh=>h gz);rw[A7 (λh=>h gz)]at e1;rw[A7 (λh=>h gz)]at e2;have nf:C9.r S9 [(.undef,.ptr t 0),(iN 0,.val),(P7.D9,.val)] s1=some ([],s2):=by have:=e2;rw[gz]at this;exact this
    rw[e1]at start;simp only[I7,(four _ _ _ _).1,(four _ _ _ _).2.1,(four _ _ _ _).2.2.1,(four _ _ _ _).2.2.2,(A0T P7).1,(A0T P7).2,F8,nf,wl',lnS,z0,z0q]at start;rw[start,last z.1.names z.1.nodes Io (by omega) (by omega)];exact e5
   ·have Io:inn=List.zipWith (λs n=>(⟨s,n,[]⟩:EN)) [] []:=A9 gz;rw[A9 gz]at e1 e2;rw[e1]at start;simp only[I7,(four _ _ _ _).1,(four _ _ _ _).2.1,(four _ _ _ _).2.2.1,(four _ _ _ _).2.2.2,(A0T z.1.bad).1,(A0T z.1.bad).2,F8,e2,wl',z0q]at start;have l0:O6 (.list 1 [])=some (iN 0):=rfl;simp only[l0,I7,z0]at start;have:=last [] [] Io (by simp) (by simp);simp only[zmq,z4q]at this;rw[start,this];exact e5
def B6N(A:Fz b i t p j)(hK:∀k∈e.D5,Px b i t R A8 l.length k)(hV:EV l){want out:Nat}(hw:want<5)(bV:e.D5.length<2 ^ 29):∀(q x:Nat)(w:W)(sg:List E5),x+q=e.D5.length->BR g b i t p j w sg->j5 w->Z5 w.s.l.length l->w.D5.length<=x->(FE R A8 l want (e.D5.drop x) w).s.J8+10<2 ^ 62->
 UM g b i t p j sg (I_ C9 t (iN A8) (.list 3 (l.map EN.D9)) p (iN want) (iN out) (C8 15 e.D9) (iN e.D5.length) (iN x) e.D9 sg) [iN out] (FE R A8 l want (e.D5.drop x) w):=by
 intro q;induction q with
 |zero=>intro x w sg hx h I hE Ho hr;rw[z5q (by omega),FE,Tf];simp only[Ac,I7,F3,I6];rw[A7 (by omega)];exact⟨sg,rfl,h,Kx.refl _⟩
 |succ q ih=>
   intro x w sg hx h I hE Ho hr;have FH:x<e.D5.length:=by omega
   have K:=hK _ (z3q FH);rw[z2q FH,FE]at hr ⊢;rw[Ex.ku FH]at K hr ⊢;have start:=Tf C9 t (iN A8) (.list 3 (l.map EN.D9)) p (iN want) (iN out) (C8 15 e.D9) (iN e.D5.length) (iN x) e.D9 sg;simp only[Ac,I7,F3,FH,J9,F6,VS FH,NJ]at start;obtain⟨a1,a2⟩:=U4 K.good K.sz I hE;have ak:=TC R w (e.kd x) A8 l;have Pa:=Fh (g:=g) (e:=e) A h I (idx:=x) FH K hE hV (by omega);generalize J2 R w (e.kd x) A8 l=a at a1 a2 ak Pa hr ⊢;have f5:=a1.i.ok.five;have g1:=U3 a1.i (a:=a.2) (b:=want) a2 (by omega) (e.kd x);have gk:=Gb a.1 a.2 want (e.kd x);have Pg:=λsg' (h':BR g b i t p j a.1 sg')=>DY h' A a1.i.ok (x:=a.2) (y:=want) a2 (by omega) (e.kd x);generalize a.1.agree a.2 want (e.kd x)=w1 at g1 gk Pg hr ⊢;have ag:=a1.trans g1;have os:=A0i (R:=R) (A8:=A8) (l:=l) hw (e.D5.drop (x+1)) w1 (λk hk=>⟨(hK k (zuq hk)).good,(hK k (zuq hk)).sz⟩) g1.i (hE.mono ag.ext.le);have r1:=g1.ext.J8;have r2:=os.ext.J8;obtain⟨s1,e1,m1,k1⟩:=Pa (by omega);obtain⟨s2,e2,m2,k2⟩:=Pg s1 m1 (by omega);obtain⟨s3,e3,m3,k3⟩:=ih (x+1) w1 s2 (by omega) m2 g1.i (hE.mono ag.ext.le) (by rw[gk];omega) hr;refine⟨s3,?_,m3,k1.trans ((ES k2).trans k3)⟩;simp only[e1,I7,z0q,e2,addN (show x<2 ^ 62 by omega)]at start;exact start.trans e3
end
section
variable {b i t p j:Nat}{g:Bool}{w:W}{sg:List E5}{R:Rec}{e:Ex}{A8:Nat}{l:List EN}
def B5n(A:Fz b i t p j)(h:BR g b i t p j w sg)(I:j5 w)(hk:e.D5.length=e.J7.length+1)(K0:Px b i t R A8 l.length (e.kd 0))(hK:∀x (hx:x<e.J7.length),Px b i t R A8 (l.length+e.J7[x].size) (e.kd (x+1)))(hP:∀q∈e.J7,q.right=true/\q.thin=true/\q.txt/\q.size<2 ^ 29)(VP:e.J7.length<2 ^ 29)(hE:Z5 w.s.l.length l)(hV:EV l)(hll:l.length<2 ^ 30)(Ho:w.D5=[])(hr:(Ip R w e A8 l).1.s.J8+10<2 ^ 62):
 UM false b i t p j sg (C9.r Ir [(.undef,.ptr t 0),(e.D9,.val),(iN A8,.val),(.list 3 (l.map EN.D9),.val),(.undef,.ptr p 0)] sg) [iN (Ip R w e A8 l).2] (Ip R w e A8 l).1:=by
 have start:=(iL t e.D9 (iN A8) (.list 3 (l.map EN.D9)) p sg).trans (jd _ _ _ _ _ _ _);simp only[AF,F8,NJ,VS (show 0<e.D5.length by omega),show(DV.int .i64 0)=iN 0 from rfl]at start;rw[Ex.A1L,B5N]at start;obtain⟨a1,a2⟩:=U4 K0.good K0.sz I hE;have ak:=TC R w (e.kd 0) A8 l;have Pa:=Fh (g:=g) A h I (idx:=0) (by omega) K0 hE hV (by rw[Ho];simp);unfold Ip at hr ⊢;simp only at hr ⊢;generalize J2 R w (e.kd 0) A8 l=a at a1 a2 ak Pa hr ⊢;rw[Ho]at ak;simp only[z4q]at ak;have lb:A8<2 ^ 30:=by have:=K0.sz;omega
 obtain⟨v1,v2⟩:=Ab a1.i (show A8<2 ^ 31 by omega);have vk:=Tz a.1 A8;have Pv:=λsg' (h':BR g b i t p j a.1 sg')=>OD h' A a1.i.ok A8;generalize a.1.fresh A8=v at v1 v2 vk Pv hr ⊢;have g1:=U3 v1.i (a:=a.2) (b:=v.2) (v1.lt a2) v2 (e.kd 0);have gk:=Gb v.1 a.2 v.2 (e.kd 0);have Pg:=λsg' (h':BR g b i t p j v.1 sg')=>DY h' A v1.i.ok (x:=a.2) (y:=v.2) (v1.lt a2) v2 (e.kd 0);generalize v.1.agree a.2 v.2 (e.kd 0)=w0 at g1 gk Pg hr ⊢;obtain⟨r1,r2⟩:=Ab g1.i (show A8<2 ^ 31 by omega);have rk:=Tz w0 A8;have Pr:=λsg' (h':BR g b i t p j w0 sg')=>OD h' A g1.i.ok A8;generalize w0.fresh A8=r at r1 r2 rk Pr hr ⊢;have t1:=Dm r1 (l:=[v.2,r.2]) (by intro x hx;simp only[znq,zjq,or_false]at hx;rcases hx with rfl | rfl;exact r1.lt (g1.lt v2);exact r2);have gg:=(((a1.trans v1).trans g1).trans t1);have vl:=t1.lt (g1.lt v2);have ar:=Tc (R:=R) (A8:=A8) (l:=l) (r:=r.2) (v:=v.2) (by omega) (e.J7.zip e.D5.tail) (r.1.Y1 [v.2,r.2]) (λa ha=>by
  obtain⟨m,hm,rfl⟩:=zgq.1 ha;rw[zIq,zzq]at hm;rw[zAq,zyq,Ex.ku];have WR:m<e.J7.length:=by omega
  have Km:=hK m WR;obtain⟨q1,-⟩:=hP _ (z3q WR);unfold F5.right at q1;rw[zBq]at q1;exact⟨Km.good,Km.sz,q1.1⟩) t1.i (hE.mono gg.ext.le) vl r2
 have x1:=v1.ext.J8;have x2:=g1.ext.J8;have x3:=r1.ext.J8;have x4:=ar.1.ext.J8;have rt:(r.1.Y1 [v.2,r.2]).s=r.1.s:=rfl;rw[rt]at x4;obtain⟨s1,e1,m1,k1⟩:=Pa (by omega);obtain⟨s2,e2,m2,k2⟩:=Pv s1 m1;obtain⟨s3,e3,m3,k3⟩:=Pg s2 m2 (by omega);obtain⟨s4,e4,m4,k4⟩:=Pr s3 m3;obtain⟨c,u,c1,c2,m5,k5⟩:=f_ m4 A [v.2,r.2];have M:=B08 (R:=R) (e:=e) (A8:=A8) (l:=l) A lb hk hK hP VP (v:=v.2) (r:=r.2) hV hll e.J7.length 0 (r.1.Y1 [v.2,r.2]) _ (by omega) m5 t1.i (hE.mono gg.ext.le) vl r2 (by simp only[ko,rk,gk,vk];omega) (by rw[z7q];exact hr);rw[z7q]at M;obtain⟨s6,e6,m6,k6⟩:=M;simp only[ziq,zmq]at e6;simp only[e1,I7,z0q,NJ,e2,e3,e4,P5,F8,c1,c2]at start;exact⟨s6,start.trans e6,m6,(k1.trans (ES k2)).trans (((ES k3).trans (ES k4)).trans (k5.trans k6))⟩
def C0u(e:Ex):O6 (C8 15 e.D9)=some (iN e.D5.length):=by rw[Ex.A7f];simp[iN]
def B9Q(A:Fz b i t p j)(h:BR g b i t p j w sg)(I:j5 w)(hK:∀k∈e.D5,Px b i t R A8 l.length k)(hE:Z5 w.s.l.length l)(hV:EV l)(Ho:w.D5=[])(bV:e.D5.length<2 ^ 29)(hr:(FE R A8 l (if e.op=7 then 2 else 0) e.D5 w).s.J8+10<2 ^ 62):
 UM g b i t p j sg (C9.r ME [(.undef,.ptr t 0),(e.D9,.val),(iN A8,.val),(.list 3 (l.map EN.D9),.val),(.undef,.ptr p 0)] sg) [iN (if e.op=5\/e.op=6\/e.op=7 then 1 else 0)] (FE R A8 l (if e.op=7 then 2 else 0) e.D5 w):=by
 have start:=(sD t e.D9 (iN A8) (.list 3 (l.map EN.D9)) p sg).trans (uA _ _ _ _ _ _ _);simp only[AF,F8,Ex.B1k,BG,I7,F3,I6,mq,C0u]at start;have L:=λ(want out:Nat)(hw:want<5) hrr=>B6N (g:=g) (R:=R) (e:=e) (A8:=A8) (l:=l) A hK hV (want:=want) (out:=out) hw bV e.D5.length 0 w sg (by omega) h I hE (by rw[Ho];simp) hrr;simp only[z7q]at L;by_cases h5:e.op=5
 ·rw[A7 (show ¬e.op=7 by omega)]at hr ⊢;rw[A9 (show e.op=5\/e.op=6\/e.op=7 by omega)];rw[A9 h5]at start;obtain⟨s1,e1,m1,k1⟩:=L 0 1 (by omega) hr;exact⟨s1,start.trans e1,m1,k1⟩
 rw[A7 h5]at start;by_cases h6:e.op=6
 ·rw[A7 (show ¬e.op=7 by omega)]at hr ⊢;rw[A9 (show e.op=5\/e.op=6\/e.op=7 by omega)];rw[A9 h6]at start;obtain⟨s1,e1,m1,k1⟩:=L 0 1 (by omega) hr;exact⟨s1,start.trans e1,m1,k1⟩
 rw[A7 h6]at start;by_cases h7:e.op=7
 ·rw[A9 h7]at hr start ⊢;rw[A9 (show e.op=5\/e.op=6\/e.op=7 by omega)];obtain⟨s1,e1,m1,k1⟩:=L 2 1 (by omega) hr;exact⟨s1,start.trans e1,m1,k1⟩
 ·rw[A7 h7]at hr start ⊢;rw[A7 (show ¬(e.op=5\/e.op=6\/e.op=7)by omega)];obtain⟨s1,e1,m1,k1⟩:=L 0 0 (by omega) hr;exact⟨s1,start.trans e1,m1,k1⟩
def B6m(A:Fz b i t p j){w':W}{n:Nat}(h:BR g b i t p j w' sg)(z0 z1 z2 z3:DV):
 ∃sg',O4 C9 p (iN n) z0 z1 z2 z3 sg=some ([iN n,(DD.mk n w'.types w'.vars w'.D5).D9],sg')/\KU b i t w' sg'/\Kx [p] sg sg':=by
 obtain⟨m1,m2,m3,c1,c2,c3,c4⟩:=h.d;have lp:=CY c1;have i0:(Xx w' m1 m2 m3)[0]?=some (iN 0,.val):=rfl;have s0:(Xx w' m1 m2 m3).set 0 (iN n,.val)=[(iN n,.val),(.list 1 (w'.types.map iN),m1),(.list 1 (w'.vars.map iN),m2),(.list 4 (w'.D5.map DD.D9),m3)]:=rfl;have Sc:(∃n,m1=.U0 j n 1)\/m1=.full:=by
  cases g with
  |true=>simp only[F6]at c2;obtain⟨n,hn,-⟩:=c2;exact .inl ⟨n,hn⟩
  |false=>simpa using c2
 have sd:Vo 0 4 [(iN n,.val),(.list 1 (w'.types.map iN),m1),(.list 1 (w'.vars.map iN),m2),(.list 4 (w'.D5.map DD.D9),m3)]=some [iN n,.list 1 (w'.types.map iN),.list 1 (w'.vars.map iN),.list 4 (w'.D5.map DD.D9)]:=by rcases Sc with⟨n,rfl⟩ | rfl<;>rcases c3 with rfl | rfl<;>rcases c4 with rfl | rfl<;>rfl
 refine⟨sg.set p (.box [(iN n,.val),(.list 1 (w'.types.map iN),m1),(.list 1 (w'.vars.map iN),m2),(.list 4 (w'.D5.map DD.D9),m3)]),?_,⟨?_,?_⟩,Kx.set1 _ (.box [(iN n,.val),(.list 1 (w'.types.map iN),m1),(.list 1 (w'.vars.map iN),m2),(.list 4 (w'.D5.map DD.D9),m3)]) (by simp)⟩
 ·rw[dP];simp only[c1,I7,P5,F8,i0,s0,Bg lp,sd];rw[DD.D9,A2h];rfl
 ·exact h.t.st.mono (zFq A.pp.1) (zFq A.pp.2.1)
 ·rw[Cv A.pp.2.2];exact h.t.box
end
def B4X{e:Ex}{x:Nat}(hk:e.D5.length=e.J7.length+1)(hx:x<e.J7.length):e.J7[x].size+(e.kd (x+1)).V9<=e.V9:=by have h1:=e.Bo;have h2:=JI (zwq (f:=F5.V9) (z3q hx));have h3:=JI (zwq (f:=Ex.V9) (Ex.CR (e:=e) (i:=x+1) (by omega)));have h4:=F5.NP e.J7[x];omega
set_option maxHeartbeats 2000000 in
def A9U{b i t:Nat}:∀(f:Nat)(e:Ex),e.right=true->e.size<=f->RSp b i t (K9 f) e
 |0,e,_,hs=>by have:=Ex.size_eq e;omega
 |f+1,e,VR,hs=>λA8 l w sg hl hm I hE hV T hr=>by
   obtain⟨k1,k2,k3⟩:=Ex.bY VR;have BN:e.fit:=Ex.Wq (by omega);have TL:=BN.one
   let p:=sg.length
   let w0:W:={ w with types:=[],vars:=[],D5:=[] }
   let K4:=sg++[.box (Xx w0 (.U0 (p+1) 1 1) .full .full),.U0 1 1 0]
   have ltb:=T.st.lt;have ltt:=CY T.box;have A:Fz b i t p (p+1):=by constructor<;>omega
   have M0:BR true b i t p (p+1) w0 K4:=by
    refine⟨⟨T.st.app _,?_⟩,.U0 (p+1) 1 1,.full,.full,?_,?_,.inl rfl,.inl rfl⟩
    ·unfold H5;rw[zlq ltt];exact T.box
    ·simp[K4,p,H5]
    ·simp only[F6]
     exact⟨1,rfl,by simp[K4,p,List.getElem?_append_right,w0]⟩
   have I0:j5 w0:=⟨I.ok,by simp[w0],⟨by simp[w0],by simp[w0]⟩,trivial⟩;have gi:QR (sg++[E5.box [((iI 0),.val),((.list 1 []),.full),((.list 1 []),.full),((.list 4 []),.full)]]) sg.length [1]=some K4:=by
    have b0:∀(c:List (DV×F4))(L:List E5),H5 (sg++E5.box c::L) sg.length=some c:=λc L=>by simp[H5]
    simp only[QR,b0,I7,List.getElem?_cons_zero,List.getElem?_cons_succ,Nat.zero_lt_one,F6];rw[List.set_append_right _ _ (zaq _),Nat.sub_self,List.set_cons_zero];simp[K4,p,Xx,w0,iN]
   have ex:K9 (f+1) e A8 l w=((R7 (K9 f) w0 e A8 l).1,(R7 (K9 f) w0 e A8 l).2,.mk (R7 (K9 f) w0 e A8 l).2 (R7 (K9 f) w0 e A8 l).1.types (R7 (K9 f) w0 e A8 l).1.vars (R7 (K9 f) w0 e A8 l).1.D5):=by rw[K9]
   rw[ex]at hr ⊢;simp only at hr ⊢;have fin:∀{g:Bool}(z0 z1 z2 z3:DV)(sg':List E5)(n:Nat)(w':W),BR g b i t p (p+1) w' sg'->Kx [b,i,t,p,p+1] K4 sg'->C9.r Bt [(.undef,.ptr t 0),(e.D9,.val),(iN A8,.val),(.list 3 (l.map EN.D9),.val)] sg=O4 C9 p (iN n) z0 z1 z2 z3 sg'->(R7 (K9 f) w0 e A8 l)=(w',n)->
    ∃sg',C9.r Bt [(.undef,.ptr t 0),(e.D9,.val),(iN A8,.val),(.list 3 (l.map EN.D9),.val)] sg=some ([iN (R7 (K9 f) w0 e A8 l).2,(DD.mk (R7 (K9 f) w0 e A8 l).2 (R7 (K9 f) w0 e A8 l).1.types (R7 (K9 f) w0 e A8 l).1.vars (R7 (K9 f) w0 e A8 l).1.D5).D9],sg')/\KU b i t (R7 (K9 f) w0 e A8 l).1 sg'/\Kx [b,i,t] sg sg':=by
    intro g z0 z1 z2 z3 sg' n w' M K h hb;obtain⟨s2,e2,t2,k2⟩:=B6m A (n:=n) M z0 z1 z2 z3;rw[hb];refine⟨s2,h.trans e2,t2,?_⟩;have l1:=K.le;have l2:=k2.le;simp only[K4,zpq,z9q,z4q]at l1;refine⟨by omega,λx hx hn=>?_⟩;simp only[znq,zjq,or_false,not_or]at hn;rw[k2.eq x (by omega) (by simp;omega),K.eq x (by simp[K4];omega) (by simp;omega)];exact zlq hx
   have KK:∀x,x<e.D5.length->Cw (K9 f) (e.kd x)/\RSp b i t (K9 f) (e.kd x)/\A8+1+(e.kd x).size<2 ^ 30/\(e.kd x).V9<e.V9/\e.kd x∈e.D5:=λx hx=>by have m:=Ex.CR hx;have s:=Ex.CG m;exact⟨LF f _ (Ex.Bf VR m),A9U f _ (Ex.Bf VR m) (by omega),by omega,Ex.bz m,m⟩
   have KO:∀x,x<e.D5.length->Px b i t (K9 f) (A8+1) (l.length+2) (e.kd x):=λx hx=>by obtain⟨a,c,d,m,-⟩:=KK x hx;exact⟨a,c,d,by omega⟩
   have Vt:∀x,x<e.D5.length->Px b i t (K9 f) A8 l.length (e.kd x):=λx hx=>(KO x hx).le (by omega) (by omega);have za:=e.A6T;have zb:=e.A6U;have zl:=e.A6V;have na:=Ex.lG VR;have lb:A8<2 ^ 31:=by omega
   have E0:Z5 w0.s.l.length l:=hE;have start:=(kH t e.D9 (iN A8) (.list 3 (l.map EN.D9)) sg).trans (mZ _ _ _ _ _ _);have c3:I9 (C8 3 e.D9)=true:=by rw[Ex.MO];rfl
   have nk:∀c:Int,D7 .eql (C8 0 e.D9) (iI c)=some (.bool (decide (e.E8=c))):=λc=>by rw[Ex.CK,BG]
   have nk2:∀c:Int,D7 .eql (iI e.E8) (iI c)=some (.bool (decide (e.E8=c))):=λc=>BG _ _ _;have C0F:e.E8=2\/e.E8=3\/e.E8=4\/e.E8=5->D7 .sub (C8 0 e.D9) (iI 2)=some (iN (e.E8-2).toNat):=λh=>by
    rw[Ex.CK,Jo,Gq (by omega) (by omega)];simp only[iN]
    congr 2;omega
   simp only[AF,F8,NJ,gi,I7,nk,F3,I6]at start;have c20:=dO C9 t (iN A8) (.list 3 (l.map EN.D9)) p (C8 0 e.D9) e.D9 K4;simp only[nk,nk2,NJ,(B1M e).1,I7,F3,I6,c3,F8]at c20;rw[Ex.MO]at c20;have tQ:9<=e.E8->C9.r Bt [(.undef,.ptr t 0),(e.D9,.val),(iN A8,.val),(.list 3 (l.map EN.D9),.val)] sg=Li C9 t (iN A8) (.list 3 (l.map EN.D9)) p (C8 0 e.D9) e.D9 K4:=λh9=>by rw[start,A7 (by omega),A7 (by omega),A7 (by omega),A7 (by omega),A7 (by omega),A7 (by omega),A7 (by omega),A7 (by omega)]
   have z0:(DV.int .i64 0)=iN 0:=rfl;have z1:(DV.int .i64 1)=iN 1:=rfl;have z7:(DV.int .i64 7)=iN 7:=rfl;have z8:(DV.int .i64 8)=iN 8:=rfl;have z9:(DV.int .i64 9)=iN 9:=rfl;by_cases g1:e.E8=1
   ·have hb:R7 (K9 f) w0 e A8 l=w0.name e A8 l:=by unfold R7;rw[A9 g1]
    rw[hb]at hr;obtain⟨s2,e2,m2,k2⟩:=B7m M0 A I0 (e:=e) (l:=l) lb E0 (by omega) hV rfl hr;rw[A9 g1,e2]at start;exact fin _ _ _ _ s2 _ _ m2 k2 start hb
   by_cases g2:e.E8=2\/e.E8=3\/e.E8=4\/e.E8=5
   ·have hb:R7 (K9 f) w0 e A8 l=(w0,(e.E8-2).toNat):=by unfold R7;rw[A7 g1,A9 g2]
    rw[hb]at hr;refine fin (iI 0) (.list 1 []) (.list 1 []) (.list 4 []) K4 _ _ M0 (Kx.refl _) (start.trans ?_) hb;rw[C0F g2,A7 g1];simp only[I7];rcases g2 with g | g | g | g<;>simp[g]<;>rfl
   by_cases g3:e.E8=6
   ·have hb:R7 (K9 f) w0 e A8 l=(J2 (K9 f) (J2 (K9 f) w0 (e.kd 0) A8 l).1 (e.kd 1) A8 l).1.made 7 (J2 (K9 f) w0 (e.kd 0) A8 l).2 (J2 (K9 f) (J2 (K9 f) w0 (e.kd 0) A8 l).1 (e.kd 1) A8 l).2:=by unfold R7;rw[A7 g1,A7 g2,A9 g3]
    rw[hb]at hr;rw[A7 g1,A7 (by omega),A7 (by omega),A7 (by omega),A7 (by omega),A9 g3]at start;have n2:e.D5.length=2:=by simp[g3,L9]at k3;omega
    obtain⟨a1,a2⟩:=U4 (w:=w0) (l:=l) (Vt 0 (by omega)).good (Vt 0 (by omega)).sz I0 E0;have ak:=TC (K9 f) w0 (e.kd 0) A8 l;have Pa:=Fh (l:=l) (e:=e) A M0 I0 (idx:=0) (by omega) (Vt 0 (by omega)) E0 hV (by simp[w0]);generalize J2 (K9 f) w0 (e.kd 0) A8 l=a at a1 a2 ak Pa hr hb;obtain⟨b1,b2⟩:=U4 (w:=a.1) (l:=l) (Vt 1 (by omega)).good (Vt 1 (by omega)).sz a1.i (E0.mono a1.ext.le);have Pb:=λsg' (h':BR true b i t p (p+1) a.1 sg')=>Fh (l:=l) (e:=e) A h' a1.i (idx:=1) (by omega) (Vt 1 (by omega)) (E0.mono a1.ext.le) hV (by simp[w0]at ak;omega);generalize J2 (K9 f) a.1 (e.kd 1) A8 l=q at b1 b2 Pb hr hb;have r1:=b1.ext.J8;have r2:=(EF b1.i (k:=7) (x:=a.2) (y:=q.2) (.inl rfl) (b1.lt a2) (λ_=>b2)).1.ext.J8;obtain⟨s1,e1,m1,h1⟩:=Pa (by omega);obtain⟨s2,e2,m2,h2⟩:=Pb s1 m1 (by omega);obtain⟨s3,e3,m3,h3⟩:=XK m2 A b1.i.ok (k:=7) (x:=a.2) (y:=q.2) (.inl rfl) (b1.lt a2) (λ_=>b2);have Im:C9.r O7 [(.undef,.ptr t 0),(e.D9,.val),(iN 0,.val),(iN A8,.val),(.list 3 (l.map EN.D9),.val),(.undef,.ptr sg.length 0)] K4=_:=e1;have e2':C9.r O7 [(.undef,.ptr t 0),(e.D9,.val),(iN 1,.val),(iN A8,.val),(.list 3 (l.map EN.D9),.val),(.undef,.ptr sg.length 0)] s1=_:=e2;simp only[z0,z1,z7,Im,I7,z0q,e2',e3]at start;exact fin _ _ _ _ s3 _ _ m3 ((h1.trans h2).trans (ES h3)) start hb
   by_cases g4:e.E8=7
   ·have hb:R7 (K9 f) w0 e A8 l=((w0.fresh A8).1.Y1 [(w0.fresh A8).2]).made 8 (w0.fresh A8).2 0:=by unfold R7;rw[A7 g1,A7 g2,A7 g3,A9 g4]
    rw[hb]at hr;rw[A7 g1,A7 (by omega),A7 (by omega),A7 (by omega),A7 (by omega),A7 g3,A9 g4]at start;obtain⟨v1,v2⟩:=Ab I0 lb;obtain⟨s1,e1,m1,h1⟩:=OD M0 A I0.ok A8;generalize w0.fresh A8=v at v1 v2 e1 m1 hr hb;have t1:=Dm v1 (l:=[v.2]) (by simpa using v2);obtain⟨c,u,c1,c2,m2,h2⟩:=f_ m1 A [v.2];obtain⟨s3,e3,m3,h3⟩:=XK m2 A t1.i.ok (k:=8) (x:=v.2) (y:=0) (.inr (.inl rfl)) v2 (λh=>absurd rfl h);simp only[ziq,zmq]at e3;have c1':H5 s1 sg.length=some c:=c1;simp only[z0,z8,e1,I7,z0q,P5,F8,c1',c2]at start;have e3':C9.r BI [(.undef,.ptr t 0),(iN 8,.val),(iN v.2,.val),(iN 0,.val)] (s1.set sg.length (.box (c.set 1 (.list 1 [iN v.2],.full))))=_:=e3;simp only[e3',I7,z0q]at start;exact fin _ _ _ _ s3 _ _ m3 (((ES h1).trans h2).trans (ES h3)) start hb
   by_cases g5:e.E8=8
   ·have hb:R7 (K9 f) w0 e A8 l=MM (K9 f) w0 e A8 l:=by unfold R7;rw[A7 g1,A7 g2,A7 g3,A7 g4,A9 g5]
    rw[hb]at hr;rw[A7 g1,A7 (by omega),A7 (by omega),A7 (by omega),A7 (by omega),A7 g3,A7 g4,A9 g5]at start;have n2:e.D5.length=2:=by simp[g5,L9]at k3;omega
    obtain⟨s2,e2,m2,h2⟩:=B7g (l:=l) (e:=e) A M0 I0 n2 (Vt 0 (by omega)) (Vt 1 (by omega)) E0 hV rfl hr;have e2':C9.r KE [(.undef,.ptr t 0),(e.D9,.val),(iN A8,.val),(.list 3 (l.map EN.D9),.val),(.undef,.ptr sg.length 0)] K4=_:=e2;simp only[e2',I7,z0q]at start;exact fin _ _ _ _ s2 _ _ m2 h2 start hb
   by_cases g6:e.E8=9
   ·have hb:R7 (K9 f) w0 e A8 l=(J2 (K9 f) (w0.Y0 e.a A8).1 (e.kd 0) A8 (l++[⟨e.name,(w0.Y0 e.a A8).2,[]⟩])).1.made 9 (w0.Y0 e.a A8).2 (J2 (K9 f) (w0.Y0 e.a A8).1 (e.kd 0) A8 (l++[⟨e.name,(w0.Y0 e.a A8).2,[]⟩])).2:=by unfold R7;rw[A7 g1,A7 g2,A7 g3,A7 g4,A7 g5,A9 g6]
    rw[hb]at hr;have st:=(tQ (by omega)).trans c20;rw[A9 (by omega)]at st;have nn:e.D5.length=1:=by simp[g6,L9]at k3;omega
    obtain⟨p1,p2⟩:=RF I0 (A8:=A8) na.1 lb;have pk:=kg w0 e.a A8;obtain⟨s1,e1,m1,h1⟩:=A0u M0 A I0.ok na.1 (by omega) TL.a A8 (by simp[w0]);generalize w0.Y0 e.a A8=q at p1 p2 pk e1 m1 hr hb;have hE1:Z5 q.1.s.l.length (l++[⟨e.name,q.2,[]⟩]):=(E0.mono p1.ext.le).app (Z5.one p2);have hV1:EV (l++[⟨e.name,q.2,[]⟩]):=hV.app EV.one;have K:=(KO 0 (by omega)).le (lev':=A8) (n':=(l++[(⟨e.name,q.2,[]⟩:EN)]).length) (by omega) (by simp);obtain⟨b1,b2⟩:=U4 (w:=q.1) (l:=l++[⟨e.name,q.2,[]⟩]) K.good K.sz p1.i hE1;have Pb:=Fh (l:=l++[⟨e.name,q.2,[]⟩]) (e:=e) A m1 p1.i (idx:=0) (by omega) K hE1 hV1 (by rw[pk];simp[w0]);generalize J2 (K9 f) q.1 (e.kd 0) A8 (l++[⟨e.name,q.2,[]⟩])=a at b1 b2 Pb hr hb;have r2:=(EF b1.i (k:=9) (x:=q.2) (y:=a.2) (.inr (.inr rfl)) (b1.lt p2) (λ_=>b2)).1.ext.J8;obtain⟨s2,e2,m2,h2⟩:=Pb (by omega);obtain⟨s3,e3,m3,h3⟩:=XK m2 A b1.i.ok (k:=9) (x:=q.2) (y:=a.2) (.inr (.inr rfl)) (b1.lt p2) (λ_=>b2);have wl:=A71 l e.name q.2 [] (by omega) s1;have wl':C9.r DK [(.list 3 (l.map EN.D9),.val),(.list 3 [.agg [.str e.name,iN q.2,.list 1 []]],.val)] s1=_:=wl;simp only[z0,z9,e1,I7,z0q,P5,F8,wl',e2,e3]at st;exact fin _ _ _ _ s3 _ _ m3 ((h1.trans h2).trans (ES h3)) st hb
   by_cases g7:e.E8=10
   ·have hb:R7 (K9 f) w0 e A8 l=Ru (K9 f) w0 e A8 l:=by unfold R7;rw[A7 g1,A7 g2,A7 g3,A7 g4,A7 g5,A7 g6,A9 g7]
    rw[hb]at hr;have st:=(tQ (by omega)).trans c20;rw[A7 (by omega),A9 (by omega)]at st;have nn:e.D5.length=2:=by simp[g7,L9]at k3;omega
    obtain⟨s2,e2,m2,h2⟩:=B84 (l:=l) (e:=e) A M0 I0 nn (Vt 0 (by omega)) (Vt 1 (by omega)) E0 hV rfl hr;have e2':C9.r Kk [(.undef,.ptr t 0),(e.D9,.val),(iN A8,.val),(.list 3 (l.map EN.D9),.val),(.undef,.ptr p 0)] K4=_:=e2;simp only[e2',I7,z0q]at st;exact fin _ _ _ _ s2 _ _ m2 h2 st hb
   by_cases g8:e.E8=11
   ·have hb:R7 (K9 f) w0 e A8 l=Ry (K9 f) w0 e A8 l:=by unfold R7;rw[A7 g1,A7 g2,A7 g3,A7 g4,A7 g5,A7 g6,A7 g7,A9 g8]
    rw[hb]at hr;have st:=(tQ (by omega)).trans c20;rw[A7 (by omega),A7 (by omega),A9 (by omega)]at st;have nn:e.D5.length=2:=by simp[g8,L9]at k3;omega
    obtain⟨s2,e2,m2,h2⟩:=B85 (l:=l) (e:=e) A M0 I0 nn VR (BN.kid (Ex.CR (by omega))) (by omega) TL.a ((KO 0 (by omega)).le (zaq _) (by omega)) ((KO 1 (by omega)).le (by omega) (by omega)) E0 hV rfl hr;have e2':C9.r Kn [(.undef,.ptr t 0),(e.D9,.val),(iN A8,.val),(.list 3 (l.map EN.D9),.val),(.undef,.ptr p 0)] K4=_:=e2;simp only[e2',I7,z0q]at st;exact fin _ _ _ _ s2 _ _ m2 h2 st hb
   by_cases g9:e.E8=12
   ·have hb:R7 (K9 f) w0 e A8 l=SA (K9 f) w0 e A8 l:=by unfold R7;rw[A7 g1,A7 g2,A7 g3,A7 g4,A7 g5,A7 g6,A7 g7,A7 g8,A9 g9]
    rw[hb]at hr;have st:=(tQ (by omega)).trans c20;rw[A7 (by omega),A7 (by omega),A7 (by omega),A9 (by omega)]at st;have nn:e.D5.length=2:=by simp[g9,L9]at k3;omega
    obtain⟨s2,e2,m2,h2⟩:=B88 (l:=l) (e:=e) A M0 I0 nn VR (by omega) TL.a (by omega) TL.b (KO 0 (by omega)) ((KO 1 (by omega)).le (by omega) (by omega)) E0 hV rfl rfl hr;have e2':C9.r Ko [(.undef,.ptr t 0),(e.D9,.val),(iN A8,.val),(.list 3 (l.map EN.D9),.val),(.undef,.ptr p 0)] K4=_:=e2;simp only[e2',I7,z0q]at st;exact fin _ _ _ _ s2 _ _ m2 h2 st hb
   by_cases g10:e.E8=13
   ·have hb:R7 (K9 f) w0 e A8 l=ML (K9 f) w0 e A8 l:=by unfold R7;rw[A7 g1,A7 g2,A7 g3,A7 g4,A7 g5,A7 g6,A7 g7,A7 g8,A7 g9,A9 g10]
    rw[hb]at hr;have st:=(tQ (by omega)).trans c20;rw[A7 (by omega),A7 (by omega),A7 (by omega),A7 (by omega),A9 (by omega)]at st;have nn:e.D5.length=3:=by simp[g10,L9]at k3;omega
    obtain⟨s2,e2,m2,h2⟩:=B7f (l:=l) (e:=e) A M0 I0 nn (Vt 0 (by omega)) (Vt 1 (by omega)) (Vt 2 (by omega)) E0 hV rfl hr;have e2':C9.r KD [(.undef,.ptr t 0),(e.D9,.val),(iN A8,.val),(.list 3 (l.map EN.D9),.val),(.undef,.ptr p 0)] K4=_:=e2;simp only[e2',I7,z0q]at st;exact fin _ _ _ _ s2 _ _ m2 h2 st hb
   by_cases g11:e.E8=14
   ·have hb:R7 (K9 f) w0 e A8 l=Ip (K9 f) w0 e A8 l:=by unfold R7;rw[A7 g1,A7 g2,A7 g3,A7 g4,A7 g5,A7 g6,A7 g7,A7 g8,A7 g9,A7 g10,A9 g11]
    rw[hb]at hr;have st:=(tQ (by omega)).trans c20;rw[A7 (by omega),A7 (by omega),A7 (by omega),A7 (by omega),A7 (by omega),A9 (by omega)]at st;have nn:e.D5.length=e.J7.length+1:=by simp[g11,L9]at k3;omega
    obtain⟨s2,e2,m2,h2⟩:=B5n (l:=l) (e:=e) A M0 I0 nn (Vt 0 (by omega)) (λx hx=>by
     obtain⟨a,c,d,m,-⟩:=KK (x+1) (by omega);have pm:=B4X nn hx;exact⟨a,c,by omega,by omega⟩) (λq hq=>⟨Ex.A5i VR hq,F5.zg (TL.pat q hq),(TL.pat q hq).txt,by
     have h1:=F5.NP q;have h2:=JI (zwq (f:=F5.V9) hq);have h3:=e.vC;omega⟩) (by omega) E0 hV (by omega) rfl hr
    have e2':C9.r Ir [(.undef,.ptr t 0),(e.D9,.val),(iN A8,.val),(.list 3 (l.map EN.D9),.val),(.undef,.ptr p 0)] K4=_:=e2;simp only[e2',I7,z0q]at st;exact fin _ _ _ _ s2 _ _ m2 h2 st hb
   by_cases g12:e.E8=15
   ·have hb:R7 (K9 f) w0 e A8 l=((((J2 (K9 f) w0 (e.kd 0) A8 l).1.put e.a).1).agree (J2 (K9 f) w0 (e.kd 0) A8 l).2 ((J2 (K9 f) w0 (e.kd 0) A8 l).1.put e.a).2 (e.kd 0),((J2 (K9 f) w0 (e.kd 0) A8 l).1.put e.a).2):=by unfold R7;rw[A7 g1,A7 g2,A7 g3,A7 g4,A7 g5,A7 g6,A7 g7,A7 g8,A7 g9,A7 g10,A7 g11,A9 g12]
    rw[hb]at hr;have st:=(tQ (by omega)).trans c20;rw[A7 (by omega),A7 (by omega),A7 (by omega),A7 (by omega),A7 (by omega),A7 (by omega),A9 (by omega)]at st;have nn:e.D5.length=1:=by simp[g12,L9]at k3;omega
    obtain⟨a1,a2⟩:=U4 (w:=w0) (l:=l) (Vt 0 (by omega)).good (Vt 0 (by omega)).sz I0 E0;have Pa:=Fh (l:=l) (e:=e) A M0 I0 (idx:=0) (by omega) (Vt 0 (by omega)) E0 hV (by simp[w0]);generalize J2 (K9 f) w0 (e.kd 0) A8 l=a at a1 a2 Pa hr hb;obtain⟨n1,n2⟩:=Qf a1.i (na.2 g12);have Pn:=λsg' (h':BR true b i t p (p+1) a.1 sg')=>A24 h' A a1.i.ok (na.2 g12) (by omega) TL.a;generalize a.1.put e.a=n at n1 n2 Pn hr hb;have r1:=n1.ext.J8;have r2:=(U3 n1.i (a:=a.2) (b:=n.2) (n1.lt a2) n2 (e.kd 0)).ext.J8;have hr:(n.1.agree a.2 n.2 (e.kd 0)).s.J8+10<2 ^ 62:=hr;obtain⟨s1,e1,m1,h1⟩:=Pa (by omega);obtain⟨s2,e2,m2,h2⟩:=Pn s1 m1;obtain⟨s3,e3,m3,h3⟩:=DY m2 A n1.i.ok (x:=a.2) (y:=n.2) (n1.lt a2) n2 (e.kd 0) hr;simp only[z0,VS (show 0<e.D5.length by omega),e1,I7,z0q,NJ,e2,e3]at st;exact fin _ _ _ _ s3 _ _ m3 (h1.trans ((ES h2).trans (ES h3))) st hb
   have hb:R7 (K9 f) w0 e A8 l=(FE (K9 f) A8 l (if e.op=7 then 2 else 0) e.D5 w0,if e.op=5\/e.op=6\/e.op=7 then 1 else 0):=by unfold R7;rw[A7 g1,A7 g2,A7 g3,A7 g4,A7 g5,A7 g6,A7 g7,A7 g8,A7 g9,A7 g10,A7 g11,A7 g12]
   rw[hb]at hr;have k16:e.E8=16:=by omega
   have st:=(tQ (by omega)).trans c20;rw[A7 (by omega),A7 (by omega),A7 (by omega),A7 (by omega),A7 (by omega),A7 (by omega),A7 (by omega),A9 (by omega)]at st;obtain⟨s2,e2,m2,h2⟩:=B9Q (l:=l) (e:=e) A M0 I0 (λk hk=>by obtain⟨m,hm,rfl⟩:=zgq.1 hk;rw[Ex.ku hm];exact Vt m hm) E0 hV rfl (by omega) hr
   have e2':C9.r ME [(.undef,.ptr t 0),(e.D9,.val),(iN A8,.val),(.list 3 (l.map EN.D9),.val),(.undef,.ptr p 0)] K4=_:=e2;simp only[e2',I7,z0q]at st;exact fin _ _ _ _ s2 _ _ m2 h2 st hb
section
variable {b i t:Nat}
def KU.rd{w:W}{sg:List E5}(h:KU b i t w sg)(ok:w.s.Ok){n:Nat}(hn:n<w.s.l.length):
 ∃s1 s2,C9.r Hf [(.undef,.ptr b 0),(iN n,.val)] sg=some ([(w.s.read n).2.1.D9,iN (w.s.read n).2.2],s1)/\C9.r S9 [(.undef,.ptr t 0),(iN (w.s.read n).2.2,.val),(P7.D9,.val)] s1=some ([],s2)/\KU b i t (w.rd n) s2/\Kx [b,i,t] sg s2:=by
 obtain⟨s1,e1,a1,k1⟩:=B7e h.st ok hn;obtain⟨s2,e2,a2,k2⟩:=dG (h.kp k1 a1) (w.s.read n).2.2 P7;exact⟨s1,s2,e1,e2,a2,k1.k3.trans (k2.more (by intro x hx;simp only[znq,zjq,or_false]at hx ⊢;omega))⟩
def B8p(l:List DD):O6 (.list 4 (l.map DD.D9))=some (iN l.length):=by simp[iN]
def B8k{l:List DD}{j:Nat}(h:j<l.length):O0 4 (.list 4 (l.map DD.D9)) (iN j)=some l[j].D9:=V8 h
def B5C(n:Nat)(ts vs:List Nat)(ks:List DD):C8 0 (DD.mk n ts vs ks).D9=iN n/\C8 1 (DD.mk n ts vs ks).D9=.list 1 (ts.map iN)/\C8 2 (DD.mk n ts vs ks).D9=.list 1 (vs.map iN)/\C8 3 (DD.mk n ts vs ks).D9=.list 4 (ks.map DD.D9):=by rw[DD.D9,A2h];exact⟨rfl,rfl,rfl,rfl⟩
def Zv(y:Ty):DV.agg [C8 0 y.D9,C8 1 y.D9,C8 2 y.D9]=y.D9:=by simp[Ty.AA,Ty.ag]
mutual
theorem A7T:∀(d:DD)(w:W)(sg:List E5),KU b i t w sg->w.s.Ok->DD.lt w.s.l.length d->d.cnt<=2 ^ 30->
 ∃y sg',C9.r FI [(.undef,.ptr t 0),(d.D9,.val)] sg=some ([Ty.D9 y],sg')/\KU b i t (AR d w) sg'/\Kx [b,i,t] sg sg'/\(w.err=0->∀n ts vs ks,d=.mk n ts vs ks->y=(w.s.read n).2.1)
 |.mk n ts vs ks,w,sg,h,ok,hl,hc=>by
   have start:=(iM t (DD.mk n ts vs ks).D9 sg).trans (je _ _ _ _);obtain⟨p0,p1,p2,p3⟩:=B5C n ts vs ks;obtain⟨d1,d2⟩:=wR (.mk n ts vs ks);rw[DD.lt]at hl;obtain⟨s1,s2,e1,e2,t2,k2⟩:=h.rd ok hl.1;simp only[d2,F8,JS h,I7,z0q,U2,F3,h.box,Jj,p0,p3,e1,Nc,Nf,Az,<- UB,e2,B8p]at start;rw[AR];by_cases g:w.err=0
   ·rw[A7 (λh=>h g)];simp only[g,J9,zbq,z1q,G9]at start;obtain⟨a1,a2,a3,a4⟩:=oo ok n;rw[DD.cnt]at hc;obtain⟨dD,e3,t3,k3⟩:=A4a ks (w.s.read n).2.1 ks (w.rd n) s2 0 (by rw[z7q]) t2 a1 (by rw[a2];exact hl.2.2.2) (by omega) (by have:=mO ks;omega) (iI 0) (iI 0) (.list 3 []);exact⟨(w.s.read n).2.1,dD,start.trans e3,t3,k2.trans k3,λ_ n' ts' vs' ks' h=>by cases h;rfl⟩
   ·rw[A9 g];simp only[g,T9,zhq,F6]at start;exact⟨zTy,sg,by rw[start,A96],h,Kx.refl _,λh=>absurd h g⟩
theorem A4a:∀(qs:List DD)(y:Ty)(ks:List DD)(w:W)(sg:List E5)(j:Nat),qs=ks.drop j->KU b i t w sg->w.s.Ok->DD.ZN w.s.l.length qs->DD.EL qs<=2 ^ 30->ks.length<2 ^ 31->∀z0 z1 z2:DV,
 ∃sg',GA C9 t (.list 4 (ks.map DD.D9)) (iN ks.length) (iN j) z0 z1 z2 y.D9 sg=some ([y.D9],sg')/\KU b i t (LY qs w) sg'/\Kx [b,i,t] sg sg'
 |[],y,ks,w,sg,j,hq,h,ok,hl,hc,Ho,z0,z1,z2=>by
   have hj:ks.length<=j:=by have:=congrArg List.length hq;simp only[z4q,zcq]at this;omega
   rw[LY,QK];simp only[Ac,I7,F3,I6];rw[A7 (by omega)];simp only[Zv];exact⟨sg,rfl,h,Kx.refl _⟩
 |k::qs,y,ks,w,sg,j,hq,h,ok,hl,hc,Ho,z0,z1,z2=>by
   have hj:j<ks.length:=by have:=congrArg List.length hq;simp only[z9q,zcq]at this;omega
   rw[z2q hj]at hq;simp only[List.cons.injEq]at hq;obtain⟨hk,hqs⟩:=hq;rw[DD.ZN]at hl;rw[DD.EL]at hc;obtain⟨y',s1,e1,t1,k1,-⟩:=A7T k w sg h ok hl.1 (by omega);obtain⟨a1,-⟩:=fT k w ok;have a2:(AR k w).s.l.length=w.s.l.length:=by rw[a1.l]
   obtain⟨s2,e2,t2,k2⟩:=A4a qs y ks (AR k w) s1 (j+1) hqs t1 a1.ok (by rw[a2];exact hl.2) (by omega) Ho z0 z1 z2;refine⟨s2,?_,by rw[LY];exact t2,k1.trans k2⟩;rw[QK];simp only[Ac,I7,F3,hj,J9,F6,B8k hj,<- hk,(wR k).1,e1,addN (show j<2 ^ 62 by omega)]
   exact e2
end
theorem encI(l:List Nat):DV.list 1 (l.map iN)=N9 (l.map Int.ofNat):=by
 simp only[N9,List.map_map]
 try rfl
def B3V{o:List Ty}{y:Ty}(h:o.length<2 ^ 31):Dh 3 (.list 3 (o.map Ty.D9)) (.list 3 [y.D9])=some (.list 3 ((o++[y]).map Ty.D9)):=by rw[JW (by simp[R6];omega)];simp
def B7A{o:List K8}{y:K8}(h:o.length<2 ^ 31):Dh 3 (.list 3 (o.map K8.D9)) (.list 3 [y.D9])=some (.list 3 ((o++[y]).map K8.D9)):=by rw[JW (by simp[R6];omega)];simp
def B93(b i t:Nat)(sg:List E5)(r:Option (List DV×List E5))(w:W)(d:K8):Prop:=∃y sg',r=some ([K8.D9 y],sg')/\KU b i t w sg'/\Kx [b,i,t] sg sg'/\(w.err=0->y=d)
theorem B1p{d:DV}{vs:List Nat}{ts:List Nat}(z0 z1 z2:DV):∀(qs:List Nat)(j:Nat)(o:List Ty)(w:W)(sg:List E5),qs=ts.drop j->KU b i t w sg->w.s.Ok->(∀x∈qs,x<w.s.l.length)->o.length<=w.s.cnt->o.length=j->
 (∃y sg',Cq C9 t (.list 1 (ts.map iN)) (iN ts.length) (iN j) d z0 z1 z2 (.list 3 (o.map Ty.D9)) (.list 1 (vs.map iN)) sg=some ([K8.D9 y],sg')/\KU b i t (Ar qs w).1 sg'/\Kx [b,i,t] sg sg'/\(Ar qs w).1.err≠0) \/
 ∃sg',Cq C9 t (.list 1 (ts.map iN)) (iN ts.length) (iN j) d z0 z1 z2 (.list 3 (o.map Ty.D9)) (.list 1 (vs.map iN)) sg=Cq C9 t (.list 1 (ts.map iN)) (iN ts.length) (iN ts.length) d z0 z1 z2 (.list 3 ((o++(Ar qs w).2).map Ty.D9)) (.list 1 (vs.map iN)) sg'/\KU b i t (Ar qs w).1 sg'/\Kx [b,i,t] sg sg':=by
 intro qs;induction qs with
 |nil=>
   intro j o w sg hq h ok hl ho hoj;right;have hj:ts.length<=j:=by have:=congrArg List.length hq;simp only[z4q,zcq]at this;omega
   refine⟨sg,?_,h,Kx.refl _⟩;by_cases e:j=ts.length
   ·rw[e];simp[Ar]
   ·rw[Dt,Dt];simp only[Ac,I7,F3,I6];rw[A7 (by omega),A7 (by omega)];simp[Ar]
 |cons n qs ih=>
   intro j o w sg hq h ok hl ho hoj;have hj:j<ts.length:=by have:=congrArg List.length hq;simp only[z9q,zcq]at this;omega
   rw[z2q hj]at hq;simp only[List.cons.injEq]at hq;obtain⟨hn,hqs⟩:=hq;have start:=Dt C9 t (.list 1 (ts.map iN)) (iN ts.length) (iN j) d z0 z1 z2 (.list 3 (o.map Ty.D9)) (.list 1 (vs.map iN)) sg;obtain⟨s1,s2,e1,e2,t2,k2⟩:=h.rd ok (hl n (zkq ..));have oc:=ok.cm;have om:=ok.mm;simp only[Ac,I7,F3,hj,J9,F6,IL hj,<- hn,Ba,F8,JS h,z0q,U2,h.box,Jj,e1,Nc,Nf,Az,<- UB,e2,Zv,B3V (show o.length<2 ^ 31 by omega),addN (show j<2 ^ 62 by omega)]at start;rw[Ar];by_cases g:w.err=0
   ·rw[A7 (λh=>h g)];simp only[g,J9,zbq,z1q,G9]at start;obtain⟨a1,a2,a3,a4⟩:=oo ok n;have e:(({ w with s:=(w.s.read n).1 }:W).fails (w.s.read n).2.2 P7)=w.rd n:=rfl;rw[e];by_cases ge:(w.rd n).err=0
    ·obtain⟨-,-,a5⟩:=a4 ge;rcases ih (j+1) (o++[(w.s.read n).2.1]) (w.rd n) s2 hqs t2 a1 (λx hx=>by rw[a2];exact hl x (zfq _ hx)) (by simp only[zpq,z9q,z4q];omega) (by simp only[zpq,z9q,z4q];omega)with⟨y,sg',x1,x2,x3,x4⟩ | ⟨sg',x1,x2,x3⟩
     ·exact .inl ⟨y,sg',start.trans x1,x2,k2.trans x3,x4⟩
     ·exact .inr ⟨sg',by rw[start,x1];simp,x2,k2.trans x3⟩
    ·-- something went wrong: the rest does nothing
     cases qs with
     |nil=>
       right;have O9:j+1=ts.length:=by have:=congrArg List.length hqs;simp only[z4q,zcq]at this;omega
       exact⟨s2,by rw[start,O9];simp[Ar],t2,k2⟩
     |cons m qs=>
       left;have FT:j+1<ts.length:=by have:=congrArg List.length hqs;simp only[z9q,zcq]at this;omega
       have st2:=Dt C9 t (.list 1 (ts.map iN)) (iN ts.length) (iN (j+1)) d z0 z1 z2 (.list 3 ((o++[(w.s.read n).2.1]).map Ty.D9)) (.list 1 (vs.map iN)) s2;simp only[Ac,I7,F3,FT,J9,F6,IL FT,Ba,F8,JS t2,z0q,U2,ge,T9,zhq]at st2;have rt:Ar (m::qs) (w.rd n)=(w.rd n,[]):=by rw[Ar,A9 ge]
       refine⟨.mk (o++[(w.s.read n).2.1]) (vs.map Int.ofNat) [],s2,?_,by rw[rt];exact t2,k2,by rw[rt];exact ge⟩;rw[start,st2,K8.N8,encI];rfl
   ·rw[A9 g];simp only[g,T9,zhq,F6]at start;left;refine⟨.mk o (vs.map Int.ofNat) [],sg,?_,h,Kx.refl _,g⟩;rw[start,K8.N8,encI];rfl
def vR:∀(ks:List DD)(w:W),w.err≠0->True/\(C_ ks w).1=w/\True
 |[],w,_=>⟨trivial,rfl,trivial⟩
 |k::ks,w,h=>by rw[C_,A9 h];exact⟨trivial,rfl,trivial⟩
mutual
theorem A32:∀(d:DD)(w:W),w.s.Ok->jG w (BM d w).1/\True/\True
 |.mk m ts vs ks,w,ok=>by rw[BM];obtain⟨a1,-⟩:=oz ts w ok;exact⟨a1.trans (A31 ks _ a1.ok),trivial,trivial⟩
theorem A31:∀(ks:List DD)(w:W),w.s.Ok->jG w (C_ ks w).1
 |[],w,ok=>⟨ok,rfl,zaq _⟩
 |k::ks,w,ok=>by
   rw[C_];split
   ·exact⟨ok,rfl,zaq _⟩
   ·obtain⟨a1,-⟩:=A32 k w ok;exact a1.trans (A31 ks _ a1.ok)
end
def A5a(y:K8):DV.agg [C8 0 y.D9,C8 1 y.D9,C8 2 y.D9]=y.D9:=by simp[K8.AA,K8.ag]
mutual
theorem A9W:∀(d:DD)(w:W)(sg:List E5),KU b i t w sg->w.s.Ok->DD.lt w.s.l.length d->d.cnt<=2 ^ 30->B93 b i t sg (C9.r GM [(.undef,.ptr t 0),(d.D9,.val)] sg) (BM d w).1 (BM d w).2
 |.mk n ts vs ks,w,sg,h,ok,hl,hc=>by
   have start:=(kK t (DD.mk n ts vs ks).D9 sg).trans (mr _ _ _ _);obtain⟨p0,p1,p2,p3⟩:=B5C n ts vs ks;obtain⟨d1,d2⟩:=wR (.mk n ts vs ks);rw[DD.lt]at hl;rw[DD.cnt]at hc;have il:I9 (DV.list 1 (vs.map iN))=true:=rfl;simp only[d2,F8,p1,p2,il,TQ,I7]at start;obtain⟨a1,a2⟩:=oz ts w ok;rw[BM];rcases B1p (b:=b) (i:=i) (t:=t) (d:=(DD.mk n ts vs ks).D9) (vs:=vs) (ts:=ts) (.list 3 []) (.list 1 []) (.list 3 []) ts 0 [] w sg rfl h ok hl.2.1 (by simp) rfl with⟨y,s1,e1,t1,k1,g⟩ | ⟨s1,e1,t1,k1⟩
   ·obtain⟨c1,c0,c2⟩:=vR ks (Ar ts w).1 g;refine⟨y,s1,start.trans e1,by simp only;rw[c0];exact t1,k1,λh=>?_⟩;simp only at h;rw[c0]at h;exact absurd h g
   ·rw[List.nil_append]at e1;have st2:=Dt C9 t (.list 1 (ts.map iN)) (iN ts.length) (iN ts.length) (DD.mk n ts vs ks).D9 (.list 3 []) (.list 1 []) (.list 3 []) (.list 3 ((Ar ts w).2.map Ty.D9)) (.list 1 (vs.map iN)) s1;simp only[Ac,zeq,T9,I7,F3,z1q,G9,p3,B8p]at st2;have FD:=mO ks;obtain⟨y,s2,e2,t2,k2,x2⟩:=A7Y ks (Ar ts w).2 vs ks [] (Ar ts w).1 s1 0 rfl t1 a1.ok (by rw[a1.l];exact hl.2.2.2) (by omega) (by omega) rfl (.list 3 []) (.list 1 []) (.list 3 []);exact⟨y,s2,start.trans (e1.trans (st2.trans e2)),t2,k1.trans k2,λh=>by rw[x2 h];simp⟩
theorem A7Y:∀(qs:List DD)(tys:List Ty)(vs:List Nat)(ks:List DD)(o:List K8)(w:W)(sg:List E5)(j:Nat),qs=ks.drop j->KU b i t w sg->w.s.Ok->DD.ZN w.s.l.length qs->DD.EL qs<=2 ^ 30->ks.length<2 ^ 31->o.length=j->∀z0 z1 z2:DV,
 ∃y sg',GD C9 t (.list 4 (ks.map DD.D9)) (iN ks.length) (iN j) z0 z1 z2 (.list 3 (tys.map Ty.D9)) (.list 1 (vs.map iN)) (.list 3 (o.map K8.D9)) sg=some ([K8.D9 y],sg')/\KU b i t (C_ qs w).1 sg'/\Kx [b,i,t] sg sg'/\((C_ qs w).1.err=0->y=.mk tys (vs.map Int.ofNat) (o++(C_ qs w).2))
 |[],tys,vs,ks,o,w,sg,j,hq,h,ok,hl,hc,Ho,hoj,z0,z1,z2=>by
   have hj:ks.length<=j:=by have:=congrArg List.length hq;simp only[z4q,zcq]at this;omega
   rw[C_,QL];simp only[Ac,I7,F3,I6];rw[A7 (by omega)];exact⟨.mk tys (vs.map Int.ofNat) o,sg,by rw[K8.N8,encI];rfl,h,Kx.refl _,λ_=>by simp⟩
 |k::qs,tys,vs,ks,o,w,sg,j,hq,h,ok,hl,hc,Ho,hoj,z0,z1,z2=>by
   have hj:j<ks.length:=by have:=congrArg List.length hq;simp only[z9q,zcq]at this;omega
   rw[z2q hj]at hq;simp only[List.cons.injEq]at hq;obtain⟨hk,hqs⟩:=hq;rw[DD.ZN]at hl;rw[DD.EL]at hc;have start:=QL C9 t (.list 4 (ks.map DD.D9)) (iN ks.length) (iN j) z0 z1 z2 (.list 3 (tys.map Ty.D9)) (.list 1 (vs.map iN)) (.list 3 (o.map K8.D9)) sg;simp only[Ac,I7,F3,hj,J9,F6,B8k hj,<- hk,JS h,z0q,U2,(wR k).1]at start;rw[C_];by_cases g:w.err=0
   ·rw[A7 (λh=>h g)];simp only[g,J9,zbq,z1q,G9]at start;obtain⟨y,s1,e1,t1,k1,x1⟩:=A9W k w sg h ok hl.1 (by omega);obtain⟨a1,-,-⟩:=A32 k w ok;have a2:(BM k w).1.s.l.length=w.s.l.length:=by rw[a1.l]
    obtain⟨y2,s2,e2,t2,k2,x2⟩:=A7Y qs tys vs ks (o++[y]) (BM k w).1 s1 (j+1) hqs t1 a1.ok (by rw[a2];exact hl.2) (by omega) Ho (by simp[hoj]) z0 z1 z2;refine⟨y2,s2,?_,t2,k1.trans k2,λh=>?_⟩
    ·simp only[e1,I7,z0q,Jt,F8,B7A (show o.length<2 ^ 31 by omega),addN (show j<2 ^ 62 by omega)]at start;exact start.trans e2
    ·have h':(C_ qs (BM k w).1).1.err=0:=h;have e0:(BM k w).1.err=0:=by
      by_cases e0:(BM k w).1.err=0
      ·exact e0
      ·rw[(vR qs _ e0).2.1]at h';exact h'
     rw[x2 h',x1 e0];simp
   ·rw[A9 g];simp only[g,T9,zhq,F6]at start;exact⟨.mk tys (vs.map Int.ofNat) o,sg,by rw[start,K8.N8,encI];rfl,h,Kx.refl _,λh=>absurd h g⟩
end
end
section
structure Gt(es:List (DV×DV))(N:List Int):Prop where
 get:∀v:Int,V7 es (iI v)=if v∈N then some (iI (N.idxOf v:Nat))else none
 len:es.length=N.length
def A6O:∀(es:List (DV×DV))(k v:DV),V7 es k=none->(Bb es k v).length=es.length+1
 |[],k,v,_=>rfl
 |e::es,k,v,h=>by
   unfold V7 at h;rw[List.find?_cons]at h;rw[Bb];by_cases g:FV k e.1=true
   ·rw[g]at h;simp at h
   ·have g':FV k e.1=false:=by simpa using g
    rw[g']at h;rw[A7 g,z9q,A6O es k v (by unfold V7;exact h),z9q]
def A6Y(N:List Int)(v:Int):List Int:=if v∈N then N else N++[v]
theorem B2N(v:Int)(vs N:List Int):Cu (v::vs) N=Cu vs (A6Y N v):=rfl
variable {es:List (DV×DV)}{N:List Int}
def Gt.met(h:Gt es N){v:Int}(hv:v∉N):Gt (Bb es (iI v) (iI (N.length:Nat))) (A6Y N v):=by
 have e:A6Y N v=N++[v]:=A7 hv;have g:=h.get v;rw[A7 hv]at g;refine⟨λc=>?_,by rw[A6O _ _ _ g,h.len,e];simp⟩;rw[fM,e];by_cases hc:v=c
 ·subst hc;rw[A9 rfl,A9 (by simp),zHq,A7 hv];simp
 ·rw[A7 hc,h.get c];by_cases hm:c∈N
  ·rw[A9 hm,A9 (by simp[hm]),zHq,A9 hm]
  ·rw[A7 hm,A7 (by simp[hm,Ne.symm hc])]
variable {m:Nat}{sg:List E5}
def B7l(hm:Q5 sg m=some (false,es))(h:Gt es N)(v:Int):∃es',C9.r Dc [(.undef,.map m),(iI v,.val)] sg=some ([],sg.set m (.map false es'))/\Gt es' (A6Y N v):=by
 have start:=(iF m (iI v) sg).trans (jW _ _ _ _);have ik:Z4 false (iI v)=true:=rfl;have ml:A1y sg (.map m)=some N.length:=by show(ob (Q5 sg m) λp=>some p.2.length)=_;rw[hm,I7,h.len]
 simp only[ik,zCq,F8,hm,I7,beq_self_eq_true,h.get,U2,F3,ml,A17]at start;by_cases g:v∈N
 ·simp only[g,F6,Option.isSome_some,zbq,z1q,G9]at start;exact⟨es,by rw[start,Nt hm],by unfold A6Y;rw[A9 g];exact h⟩
 ·simp only[g,G9,Option.isSome_none,zhq,F6,Bool.and_self,F8]at start;exact⟨_,start,h.met g⟩
def UD(h:Q5 sg m=some (false,es)):m<sg.length:=(List.getElem?_eq_some_iff.1 (dE h)).1
def A2R{X:Type}{P:Nat->List E5->Option X}{vs:List Int}(step:∀(j:Nat)(h:j<vs.length)(sg:List E5)(sg':List E5),C9.r Dc [(.undef,.map m),(iI vs[j],.val)] sg=some ([],sg')->P j sg=P (j+1) sg'):∀(q j:Nat)(sg:List E5)(es:List (DV×DV))(N:List Int),j+q=vs.length->Q5 sg m=some (false,es)->Gt es N->
 ∃es',P j sg=P vs.length (sg.set m (.map false es'))/\Gt es' (Cu (vs.drop j) N):=by
 intro q;induction q with
 |zero=>intro j sg es N hj hm h;rw[z5q (by omega),show j=vs.length by omega];exact⟨es,by rw[Nt hm],h⟩
 |succ q ih=>
   intro j sg es N hj hm h;have O9:j<vs.length:=by omega
   obtain⟨es1,e1,h1⟩:=B7l hm h vs[j];obtain⟨es2,e2,h2⟩:=ih (j+1) _ es1 _ (by omega) (EX (UD hm) es1) h1;rw[zxq]at e2;exact⟨es2,(step j O9 sg _ e1).trans e2,by rw[z2q O9,B2N];exact h2⟩
def A6G{l:List Int}{j:Nat}(h:j<l.length):O0 1 (N9 l) (iN j)=some (iI l[j]):=V8 h
def A2N(l:List Int):O6 (N9 l)=some (iN l.length):=B2f l
def B5J{l:List K8}{j:Nat}(h:j<l.length):O0 3 (.list 3 (l.map K8.D9)) (iN j)=some l[j].D9:=V8 h
def B5M(l:List K8):O6 (.list 3 (l.map K8.D9))=some (iN l.length):=by simp[iN]
def Vs{t:Ty}(h:t.size<=65536):t.thin=true/\t.Dx<=R6/\t.D5.length<=65536/\t.vars.length<=65536:=by refine⟨Ty.Hy (by unfold R6;omega),z8q t.iy (by unfold R6;omega),?_,by have:=t.qD [];simp only[z4q]at this;unfold Ty.vars;omega⟩;have:=t.size_eq;have:=A9v (l:=t.D5) (f:=Ty.size) Ty.pU;omega
def B3I{l1 l2 l3:DV}{b3:DV}{t:Ty}(ht:t.size<=65536)(hm:Q5 sg m=some (false,es))(h:Gt es N):
 ∃es',Z7 C9 m l1 l2 l3 (N9 t.vars) (iN t.vars.length) (iN 0) b3 sg=Z7 C9 m l1 l2 l3 (N9 t.vars) (iN t.vars.length) (iN t.vars.length) b3 (sg.set m (.map false es'))/\Gt es' (Cu t.vars N):=by
 obtain⟨-,-,-,hv⟩:=Vs ht;have:=A2R (m:=m) (P:=λj sg=>Z7 C9 m l1 l2 l3 (N9 t.vars) (iN t.vars.length) (iN j) b3 sg) (vs:=t.vars) (λj hj sg sg' e=>by show Z7 C9 m l1 l2 l3 (N9 t.vars) (iN t.vars.length) (iN j) b3 sg=Z7 C9 m l1 l2 l3 (N9 t.vars) (iN t.vars.length) (iN (j+1)) b3 sg';rw[PV];simp only[Ac,I7,F3,hj,J9,F6,A6G hj,VU,F8,e,addN (show j<2 ^ 62 by omega)]) t.vars.length 0 sg es N (by omega) hm h
 rw[z7q]at this;exact this
def B3y(d:K8):WU d->∀(sg:List E5)(es:List (DV×DV))(N:List Int),Q5 sg m=some (false,es)->Gt es N->
 ∃es',C9.r IB [(.undef,.map m),(d.D9,.val)] sg=some ([],sg.set m (.map false es'))/\Gt es' (oL d N):=by
 induction d using K8.ind with
 |h d ih=>
   intro hd sg es N hm h;obtain⟨d1,d2,d3,d4,d5⟩:(∀t∈d.types,t.size<=65536)/\d.types.length<=70000/\d.vars.length<2 ^ 29/\d.D5.length<=70000/\∀k∈d.D5,WU k:=by cases hd with | mk _ a1 a2 a3 a4 a5=>exact⟨a1,a2,a3,a4,a5⟩
   have start:=(dQ m d.D9 sg).trans (iA _ _ _ _);simp only[Jt,F8,K8.CK,A2O,I7]at start;have ty:∀(q j:Nat)(sg:List E5)(es:List (DV×DV))(N:List Int),j+q=d.types.length->Q5 sg m=some (false,es)->Gt es N->
    ∃es',Bv C9 m (.list 3 (d.types.map Ty.D9)) (iN d.types.length) (iN j) d.D9 sg=Bv C9 m (.list 3 (d.types.map Ty.D9)) (iN d.types.length) (iN d.types.length) d.D9 (sg.set m (.map false es'))/\Gt es' ((d.types.drop j).foldl (λN t=>Cu t.vars N) N):=by
    intro q;induction q with
    |zero=>intro j sg es N hj hm h;rw[z5q (by omega),show j=d.types.length by omega];exact⟨es,by rw[Nt hm],h⟩
    |succ q ihq=>
      intro j sg es N hj hm h;have O9:j<d.types.length:=by omega
      have hz:=d1 _ (z3q O9);obtain⟨h1,h2,-,h4⟩:=Vs hz;obtain⟨es1,e1,g1⟩:=B3I (m:=m) (l1:=.list 3 (d.types.map Ty.D9)) (l2:=iN d.types.length) (l3:=iN j) (b3:=d.D9) hz hm h;obtain⟨es2,e2,g2⟩:=ihq (j+1) _ es1 _ (by omega) (EX (UD hm) es1) g1;rw[zxq]at e2;refine⟨es2,?_,by rw[z2q O9,List.foldl_cons];exact g2⟩;rw[PU];simp only[Ac,I7,F3,O9,J9,F6,A6H O9,Zv,zH _ h1 h2,A2N];have Im:Z7 C9 m (.list 3 (d.types.map Ty.D9)) (iN d.types.length) (iN j) (N9 d.types[j].vars) (iN d.types[j].vars.length) (iI 0) d.D9 sg=_:=e1;rw[Im,PV];simp only[Ac,zeq,T9,I7,F3,z1q,G9,addN (show j<2 ^ 62 by omega)]
      exact e2
   obtain⟨es1,e1,g1⟩:=ty d.types.length 0 sg es N (by omega) hm h;rw[z7q]at g1;have Sc:=EX (UD hm) es1;have vl:=A2R (m:=m) (P:=λj sg=>Ap C9 m (N9 d.vars) (iN d.vars.length) (iN j) d.D9 sg) (vs:=d.vars) (λj hj sg sg' e=>by show Ap C9 m (N9 d.vars) (iN d.vars.length) (iN j) d.D9 sg=Ap C9 m (N9 d.vars) (iN d.vars.length) (iN (j+1)) d.D9 sg';rw[OP];simp only[Ac,I7,F3,hj,J9,F6,A6G hj,VU,F8,e,addN (show j<2 ^ 62 by omega)]) d.vars.length 0 _ es1 _ (by omega) Sc g1
   obtain⟨es2,e2,g2⟩:=vl;rw[z7q]at g2;simp only[zxq]at e2;have uj:=EX (UD hm) es2;have kl:∀(q j:Nat)(sg:List E5)(es:List (DV×DV))(N:List Int),j+q=d.D5.length->Q5 sg m=some (false,es)->Gt es N->
    ∃es',Ey C9 m (.list 3 (d.D5.map K8.D9)) (iN d.D5.length) (iN j) sg=some ([],sg.set m (.map false es'))/\Gt es' (Zl (d.D5.drop j) N):=by
    intro q;induction q with
    |zero=>intro j sg es N hj hm h;rw[z5q (by omega),OQ,Zl];simp only[Ac,I7,F3,I6];rw[A7 (by omega)];exact⟨es,by rw[Nt hm],h⟩
    |succ q ihq=>
      intro j sg es N hj hm h;have O9:j<d.D5.length:=by omega
      have mem:=z3q O9;obtain⟨es1,e1,g1⟩:=ih _ mem (d5 _ mem) sg es N hm h;obtain⟨es2,e2,g2⟩:=ihq (j+1) _ es1 _ (by omega) (EX (UD hm) es1) g1;rw[zxq]at e2;refine⟨es2,?_,by rw[z2q O9,Zl];exact g2⟩;rw[OQ];simp only[Ac,I7,F3,O9,J9,F6,B5J O9,A5a,e1,addN (show j<2 ^ 62 by omega)]
      exact e2
   obtain⟨es3,e3,g3⟩:=kl d.D5.length 0 _ es2 _ (by omega) uj g2;rw[z7q]at g3;rw[zxq]at e3;refine⟨es3,?_,?_⟩
   ·have Im:Bv C9 m (.list 3 (d.types.map Ty.D9)) (iN d.types.length) (iI 0) d.D9 sg=_:=e1;rw[start,Im,PU];simp only[Ac,zeq,T9,I7,F3,z1q,G9,K8.FZ,A2N];have e2':Ap C9 m (N9 d.vars) (iN d.vars.length) (iI 0) d.D9 (sg.set m (.map false es1))=_:=e2;rw[e2',OP];simp only[Ac,zeq,T9,I7,F3,z1q,G9,K8.Dl,B5M];exact e3
   ·cases d;rw[oL];exact g3
end
section
variable {es:List (DV×DV)}{N:List Int}
theorem Gt.num(h:Gt es N)(v:Int):(V7 es (iI v)).getD (iI 0)=.int .i64 (numOf N v):=by rw[h.get];unfold numOf;split<;>rfl
theorem Gt.C0y(h:Gt es N)(v:Int):(V7 es (iI v)).getD (iN 0)=.int .i64 (numOf N v):=h.num v
variable (N:List Int)
theorem B6K(t:Ty):Ht N t=if t.E8=6 then .mk t.E8 (numOf N t.n) t.D5 else if t.D5.length=0 then t else .mk t.E8 0 (t.D5.map (Ht N)):=by
 have e:∀ts:List Ty,Zn N ts=ts.map (Ht N):=by
  intro ts;induction ts with
  |nil=>rw[Zn];rfl
  |cons t ts ih=>rw[Zn,ih];rfl
 cases t;rw[Ht,e];rfl
variable (d:K8)
theorem B6I:Vf N d=.mk (d.types.map (Ht N)) (d.vars.map (numOf N)) (d.D5.map (Vf N)):=by
 have e:∀ts:List K8,fU N ts=ts.map (Vf N):=by
  intro ts;induction ts with
  |nil=>rw[fU];rfl
  |cons t ts ih=>rw[fU,ih];rfl
 cases d;rw[Vf,e];rfl
section
variable {m:Nat}{sg:List E5}{es:List (DV×DV)}{N:List Int}(hm:Q5 sg m=some (false,es))(h:Gt es N)
include hm h
theorem A9V(t:Ty):t.size<=65536->C9.r GK [(.undef,.map m),(t.D9,.val)] sg=some ([(Ht N t).D9],sg):=by
 induction t using Ty.ind with
 |h t ih=>
   intro hz;obtain⟨-,-,hk,-⟩:=Vs hz;have start:=(kE m t.D9 sg).trans (mW _ _ _ _);have ik:Z4 false (iI t.n)=true:=rfl;have k6:D7 .eql (iI t.E8) (iI 6)=some (.bool (decide (t.E8=6))):=BG _ _ _;simp only[Az,F8,Ty.CK,Ty.FZ,Ty.Dl,k6,I7,F3,I6,ik,zCq,hm,beq_self_eq_true,h.C0y,Nl,A2O,show(DV.int .i64 0)=iN 0 from rfl,PT,Ty.AA,Ty.ag]at start;rw[B6K];split
   ·rename_i g;rw[A9 g]at start;rw[start,Ty.N8];rfl
   ·rename_i g;rw[A7 g]at start;split
    ·rename_i g2;rw[A9 g2]at start;exact start
    ·rename_i g2;rw[A7 g2]at start;have key:∀(q j:Nat),j+q=t.D5.length->Gu C9 m (.list 3 (t.D5.map Ty.D9)) (iN t.D5.length) (iN j) (iN 0) (iN 0) (iI t.E8) (iN 0) (.list 3 (((t.D5.take j).map (Ht N)).map Ty.D9)) sg=some ([(Ty.mk t.E8 0 (t.D5.map (Ht N))).D9],sg):=by
      intro q;induction q with
      |zero=>intro j hj;rw[Ra,zdq (by omega)];simp only[Ac,I7,F3,I6];rw[A7 (by omega),Ty.N8];rfl
      |succ q ihq=>
        intro j hj;have O9:j<t.D5.length:=by omega
        have mem:=z3q O9;rw[Ra];simp only[Ac,I7,F3,O9,J9,F6,A6H O9,Zv,ih _ mem (by have:=Ty.CG mem;omega),z0q,Az,F8,B3V (show((t.D5.take j).map (Ht N)).length<2 ^ 31 by rw[zqq,zvq];omega),addN (show j<2 ^ 62 by omega)]
        have:=ihq (j+1) (by omega);rw[z6q O9,zrq]at this;exact this
     rw[start];exact key t.D5.length 0 (by omega)
theorem B7n(d:K8):WU d->C9.r KA [(.undef,.map m),(d.D9,.val)] sg=some ([(Vf N d).D9],sg):=by
 induction d using K8.ind with
 |h d ih=>
   intro hd;obtain⟨d1,d2,d3,d4,d5⟩:(∀t∈d.types,t.size<=65536)/\d.types.length<=70000/\d.vars.length<2 ^ 29/\d.D5.length<=70000/\∀k∈d.D5,WU k:=by cases hd with | mk _ a1 a2 a3 a4 a5=>exact⟨a1,a2,a3,a4,a5⟩
   have start:=(kD m d.D9 sg).trans (mV _ _ _ _);simp only[Jt,F8,K8.CK,A2O,I7]at start;have ty:∀(q j:Nat)(z0 z1 z2:DV),j+q=d.types.length->Cm C9 m (.list 3 (d.types.map Ty.D9)) (iN d.types.length) (iN j) d.D9 z0 z1 z2 (.list 3 (((d.types.take j).map (Ht N)).map Ty.D9)) sg=Cm C9 m (.list 3 (d.types.map Ty.D9)) (iN d.types.length) (iN d.types.length) d.D9 z0 z1 z2 (.list 3 ((d.types.map (Ht N)).map Ty.D9)) sg:=by
    intro q;induction q with
    |zero=>intro j z0 z1 z2 hj;rw[zdq (by omega),show j=d.types.length by omega]
    |succ q ihq=>
      intro j z0 z1 z2 hj;have O9:j<d.types.length:=by omega
      rw[RY];simp only[Ac,I7,F3,O9,J9,F6,A6H O9,Zv,A9V hm h _ (d1 _ (z3q O9)),z0q,Az,F8,B3V (show((d.types.take j).map (Ht N)).length<2 ^ 31 by rw[zqq,zvq];omega),addN (show j<2 ^ 62 by omega)]
      have:=ihq (j+1) z0 z1 z2 (by omega);rw[z6q O9,zrq]at this;exact this
   have va:∀(q j:Nat)(b3 z0 z1 z2 y0 y2:DV),j+q=d.vars.length->Cn C9 m (N9 d.vars) (iN d.vars.length) (iN j) b3 z0 z1 z2 y0 (N9 ((d.vars.take j).map (numOf N))) y2 sg=Cn C9 m (N9 d.vars) (iN d.vars.length) (iN d.vars.length) b3 z0 z1 z2 y0 (N9 (d.vars.map (numOf N))) y2 sg:=by
    intro q;induction q with
    |zero=>intro j b3 z0 z1 z2 y0 y2 hj;rw[zdq (by omega),show j=d.vars.length by omega]
    |succ q ihq=>
      intro j b3 z0 z1 z2 y0 y2 hj;have O9:j<d.vars.length:=by omega
      have ik:Z4 false (iI d.vars[j])=true:=rfl;have ap:Dh 1 (N9 ((d.vars.take j).map (numOf N))) (.list 1 [iI (numOf N d.vars[j])])=some (N9 ((d.vars.take (j+1)).map (numOf N))):=by unfold N9;rw[JW (by simp[R6];omega),z6q O9,zrq,zrq];rfl
      rw[RZ];simp only[Ac,I7,F3,O9,J9,F6,A6G O9,VU,F8,ik,zCq,hm,beq_self_eq_true,h.num,Nl,ap,addN (show j<2 ^ 62 by omega)]
      exact ihq (j+1) b3 z0 z1 z2 y0 y2 (by omega)
   have kl:∀(q j:Nat)(z0 z1 z2:DV),j+q=d.D5.length->F_ C9 m (.list 3 (d.D5.map K8.D9)) (iN d.D5.length) (iN j) z0 z1 z2 (.list 3 ((d.types.map (Ht N)).map Ty.D9)) (N9 (d.vars.map (numOf N))) (.list 3 (((d.D5.take j).map (Vf N)).map K8.D9)) sg=some ([(Vf N d).D9],sg):=by
    intro q;induction q with
    |zero=>intro j z0 z1 z2 hj;rw[QH,zdq (by omega)];simp only[Ac,I7,F3,I6];rw[A7 (by omega),B6I,K8.N8];rfl
    |succ q ihq=>
      intro j z0 z1 z2 hj;have O9:j<d.D5.length:=by omega
      have mem:=z3q O9;rw[QH];simp only[Ac,I7,F3,O9,J9,F6,B5J O9,A5a,ih _ mem (d5 _ mem),z0q,Jt,F8,B7A (show((d.D5.take j).map (Vf N)).length<2 ^ 31 by rw[zqq,zvq];omega),addN (show j<2 ^ 62 by omega)]
      have:=ihq (j+1) z0 z1 z2 (by omega);rw[z6q O9,zrq]at this;exact this
   have t0:=ty d.types.length 0 (.list 3 []) (.list 1 []) (.list 3 []) (by omega);have t0':Cm C9 m (.list 3 (d.types.map Ty.D9)) (iN d.types.length) (iI 0) d.D9 (.list 3 []) (.list 1 []) (.list 3 []) (.list 3 []) sg=_:=t0;rw[start,t0',RY];simp only[Ac,zeq,T9,I7,F3,z1q,G9,K8.FZ,A2N];have v0:=va d.vars.length 0 d.D9 (.list 3 []) (.list 1 []) (.list 3 []) (.list 3 ((d.types.map (Ht N)).map Ty.D9)) (.list 3 []) (by omega);have v0':Cn C9 m (N9 d.vars) (iN d.vars.length) (iI 0) d.D9 (.list 3 []) (.list 1 []) (.list 3 []) (.list 3 ((d.types.map (Ht N)).map Ty.D9)) (.list 1 []) (.list 3 []) sg=_:=v0;rw[v0',RZ];simp only[Ac,zeq,T9,I7,F3,z1q,G9,K8.Dl,B5M];exact kl d.D5.length 0 (.list 3 []) (.list 1 []) (.list 3 []) (by omega)
end
def zL.D9(r:zL):DV:=.J6 [.agg [iI r.ty.E8,iI r.ty.n,.list 3 (r.ty.D5.map Ty.D9),.list 3 (r.dv.types.map Ty.D9),N9 r.dv.vars,.list 3 (r.dv.D5.map K8.D9),iN r.cnt],r.bad.D9,iN r.err]
theorem B9I(L:Int):(min (max L 0) 65536).toNat<=65536:=by omega
theorem B3j{e:Ex}(hr:e.right=true)(hs:e.size<2 ^ 29){mx:Nat}(hmx:mx<=65536):(J5 e mx).1.s.Ok/\(J5 e mx).2.1<(J5 e mx).1.s.l.length/\DD.lt (J5 e mx).1.s.l.length (J5 e mx).2.2:=by have I:j5 ⟨DX mx,P7,0,[],[],[]⟩:=⟨RA hmx,by simp,⟨by simp,by simp⟩,trivial⟩;obtain⟨a,-,c,d⟩:=LF e.size e hr 1 [] _ (by omega) I (λx hx=>by cases hx);exact⟨a,c,d⟩
theorem B5A:∀(a c:List DD),DD.EL (a++c)=DD.EL a+DD.EL c
 |[],c=>by simp[DD.EL]
 |k::a,c=>by rw[List.cons_append,DD.EL,DD.EL,B5A a c];omega
section
variable {R:Rec}{w:W}{A8:Nat}{l:List EN}{e:Ex}
theorem B0j{k:Ex}(h:∀A8 l w,(R k A8 l w).2.2.cnt<=k.size):DD.EL (J2 R w k A8 l).1.D5<=DD.EL w.D5+k.size:=by
 unfold J2;split
 ·simp only;omega
 ·simp only
  rw[B5A,DD.EL,DD.EL];have:=h A8 l w;omega
theorem B7H(f a:Nat):(TI w f a e A8).1.D5=w.D5:=by
 unfold TI
 repeat' split
 all_goals simp
theorem B7I:(w.name e A8 l).1.D5=w.D5:=by
 have mk:∀(k:Nat)(w:W),(W.many A8 k w).D5=w.D5:=by
  intro k;induction k with
  |zero=>intro w;rfl
  |succ k ih=>intro w;rw[W.many,ih];exact Tz w A8
 unfold W.name;split
 ·simp
 ·split
  ·rfl
  ·simp only
   split
   ·exact mk _ w
   ·simp only[A2K];exact mk _ w
theorem B12{v r:Nat}:∀(rs:List (F5×Ex))(w:W),(∀a∈rs,∀A8 l w,(R a.2 A8 l w).2.2.cnt<=a.2.size)->DD.EL (Ci R A8 l v r rs w).1.D5<=DD.EL w.D5+(rs.map λa=>a.2.size).sum
 |[],w,_=>by simp[Ci]
 | (p,k)::rs,w,h=>by
   rw[Ci];split
   ·simp only;omega
   ·simp only
    refine z8q (B12 rs _ λa ha=>h a (zfq _ ha)) ?_;rw[Gb,ziq,zsq];have:=B0j (w:=({ w with s:=(BA A8 p v ⟨w.s,[],[],P7⟩).1.s }:W).fails (BA A8 p v ⟨w.s,[],[],P7⟩).2 (BA A8 p v ⟨w.s,[],[],P7⟩).1.bad) (A8:=A8) (l:=l++if (BA A8 p v ⟨w.s,[],[],P7⟩).2≠0 then[]else List.zipWith (λs n=>(⟨s,n,[]⟩:EN)) (BA A8 p v ⟨w.s,[],[],P7⟩).1.names (BA A8 p v ⟨w.s,[],[],P7⟩).1.nodes) (h (p,k) (zkq ..));rw[A2K]at this;simp only at this ⊢;omega
theorem B5B{want:Nat}:∀(ks:List Ex)(w:W),(∀k∈ks,∀A8 l w,(R k A8 l w).2.2.cnt<=k.size)->DD.EL (FE R A8 l want ks w).D5<=DD.EL w.D5+(ks.map Ex.size).sum
 |[],w,_=>by simp[FE]
 |k::ks,w,h=>by rw[FE];refine z8q (B5B ks _ λa ha=>h a (zfq _ ha)) ?_;rw[Gb,ziq,zsq];have:=B0j (w:=w) (A8:=A8) (l:=l) (h k (zkq ..));omega
theorem dK(h:e.D5.length=2):(e.D5.map Ex.size).sum=(e.kd 0).size+(e.kd 1).size:=by
 match hk:e.D5,h with
 |[a,c],_=>simp[Ex.kd,hk]
theorem A3W(h:e.D5.length=1):(e.D5.map Ex.size).sum=(e.kd 0).size:=by
 match hk:e.D5,h with
 |[a],_=>simp[Ex.kd,hk]
theorem B1L(h:e.D5.length=3):(e.D5.map Ex.size).sum=(e.kd 0).size+(e.kd 1).size+(e.kd 2).size:=by
 match hk:e.D5,h with
 |[a,c,d],_=>simp[Ex.kd,hk];omega
theorem B33(hr:e.right=true)(h:∀k∈e.D5,∀A8 l w,(R k A8 l w).2.2.cnt<=k.size)(hw:w.D5=[]):DD.EL (R7 R w e A8 l).1.D5<=(e.D5.map Ex.size).sum:=by
 obtain⟨k1,k2,k3⟩:=Ex.bY hr;have z:DD.EL w.D5=0:=by rw[hw];rfl
 have kd:∀i,i<e.D5.length->∀(w:W)(A8:Nat)(l:List EN),DD.EL (J2 R w (e.kd i) A8 l).1.D5<=DD.EL w.D5+(e.kd i).size:=λi hi w A8 l=>B0j (h _ (Ex.CR hi));unfold R7;by_cases g:e.E8=1
 ·rw[A9 g,B7I];omega
 rw[A7 g];by_cases g:e.E8=2\/e.E8=3\/e.E8=4\/e.E8=5
 ·rw[A9 g];simp only;omega
 rw[A7 g];by_cases g:e.E8=6
 ·rw[A9 g];have n2:e.D5.length=2:=by simp[g,L9]at k3;omega
  rw[dK n2];simp only[kZ];have a:=kd 0 (by omega) w A8 l;have c:=kd 1 (by omega) (J2 R w (e.kd 0) A8 l).1 A8 l;omega
 rw[A7 g];by_cases g:e.E8=7
 ·rw[A9 g];simp only[kZ,ko,Tz];omega
 rw[A7 g];by_cases g:e.E8=8
 ·rw[A9 g];have n2:e.D5.length=2:=by simp[g,L9]at k3;omega
  rw[dK n2];unfold MM;simp only[Gb,kZ,ko,Tz];have a:=kd 0 (by omega) w A8 l;have c:=kd 1 (by omega) (J2 R w (e.kd 0) A8 l).1 A8 l;omega
 rw[A7 g];by_cases g:e.E8=9
 ·rw[A9 g];have n2:e.D5.length=1:=by simp[g,L9]at k3;omega
  rw[A3W n2];simp only[kZ];have a:=kd 0 (by omega) (w.Y0 e.a A8).1 A8 (l++[⟨e.name,(w.Y0 e.a A8).2,[]⟩]);rw[kg]at a;omega
 rw[A7 g];by_cases g:e.E8=10
 ·rw[A9 g];have n2:e.D5.length=2:=by simp[g,L9]at k3;omega
  rw[dK n2];unfold Ru;simp only[B7H];have a:=kd 0 (by omega) w A8 l;have c:=kd 1 (by omega) (J2 R w (e.kd 0) A8 l).1 A8 l;omega
 rw[A7 g];by_cases g:e.E8=11
 ·rw[A9 g];have n2:e.D5.length=2:=by simp[g,L9]at k3;omega
  rw[dK n2];unfold Ry;simp only
  split
  ·refine z8q (kd 1 (by omega) _ _ _) ?_;have a:=kd 0 (by omega) w A8 l;simp only[Gb,B0Y];omega
  ·split
   ·split
    ·refine z8q (kd 1 (by omega) _ _ _) ?_;have a:=kd 0 (by omega) w (A8+1) l;omega
    ·refine z8q (kd 1 (by omega) _ _ _) ?_;have a:=kd 0 (by omega) w (A8+1) l;simp only[A1u,wZ];omega
   ·refine z8q (kd 1 (by omega) _ _ _) ?_;have a:=kd 0 (by omega) w A8 l;omega
 rw[A7 g];by_cases g:e.E8=12
 ·rw[A9 g];have n2:e.D5.length=2:=by simp[g,L9]at k3;omega
  rw[dK n2];unfold SA;simp only
  split
  all_goals
   refine z8q (kd 1 (by omega) _ _ _) ?_;simp only[A1u,wZ,Gb];refine z8q (zDq (kd 0 (by omega) _ _ _) _) ?_;simp only[kZ,kg];omega
 rw[A7 g];by_cases g:e.E8=13
 ·rw[A9 g];have n2:e.D5.length=3:=by simp[g,L9]at k3;omega
  rw[B1L n2];unfold ML;simp only[Gb,ko,Tz];refine z8q (kd 2 (by omega) _ _ _) ?_;refine z8q (zDq (kd 1 (by omega) _ _ _) _) ?_;have a:=kd 0 (by omega) w A8 l;simp only[Gb];omega
 rw[A7 g];by_cases g:e.E8=14
 ·rw[A9 g];have n1:e.D5.length=e.J7.length+1:=by simp[g,L9]at k3;omega
  unfold Ip;simp only;refine z8q (B12 _ _ λa ha=>h _ (List.mem_of_mem_tail (List.of_mem_zip ha).2)) ?_;simp only[ko,Tz,Gb];have a:=kd 0 (by omega) w A8 l;have:((e.J7.zip e.D5.tail).map λa=>a.2.size)=e.D5.tail.map Ex.size:=by
   have e1:((e.J7.zip e.D5.tail).map λa=>a.2.size)=((e.J7.zip e.D5.tail).map Prod.snd).map Ex.size:=by rw[List.map_map];rfl
   rw[e1,List.map_snd_zip (by rw[zzq];omega)]
  rw[this]
  match hk:e.D5,n1 with
  |k::ks,_=>
    simp only[List.tail_cons,ziq,zsq];have:e.kd 0=k:=by simp[Ex.kd,hk]
    rw[this]at a ⊢;omega
 rw[A7 g];by_cases g:e.E8=15
 ·rw[A9 g];have n2:e.D5.length=1:=by simp[g,L9]at k3;omega
  rw[A3W n2];simp only[Gb,B0Y];have a:=kd 0 (by omega) w A8 l;omega
 rw[A7 g];have:=B5B (R:=R) (A8:=A8) (l:=l) (want:=if e.op=7 then 2 else 0) e.D5 w h;simp only;omega
end
theorem A9h:∀(f:Nat)(e:Ex),e.right=true->∀A8 l w,(K9 f e A8 l w).2.2.cnt<=e.size
 |0,e,_=>λA8 l w=>by simp only[K9,DD.cnt,DD.EL];have:=e.size_eq;omega
 |f+1,e,hr=>λA8 l w=>by have:=B33 (R:=K9 f) (w:={ w with types:=[],vars:=[],D5:=[] }) (A8:=A8) (l:=l) hr (λk hk=>A9h f k (Ex.Bf hr hk)) rfl;rw[K9];simp only;rw[DD.cnt,Ex.size_eq];omega
theorem B3t{e:Ex}(hr:e.right=true)(WS:e.V9<2 ^ 28)(L:Int)(hrn:(J5 e (min (max L 0) 65536).toNat).1.s.J8+10<2 ^ 62):C9.p Ck [e.D9,iI L]=some (W9 e (min (max L 0) 65536).toNat).D9:=by
 refine(A4B _ _).trans ?_;have hmx:=B9I L;have BN:e.fit:=Ex.Wq (by omega);have Cz:e.size<2 ^ 28:=Nat.lt_of_le_of_lt e.NP WS;rw[A5I];have nw:=B82 L;generalize (min (max L 0) 65536).toNat=mx at hrn hmx nw ⊢
 let w0:W:=⟨DX mx,P7,0,[],[],[]⟩
 let sg0:List E5:=Vq 5 mx++[.box (q_ 0 w0)]
 have T0:KU 0 1 2 w0 sg0:=⟨(B9a mx).app _,rfl⟩;have I:j5 w0:=⟨RA hmx,by simp[w0],⟨by simp[w0],by simp[w0]⟩,trivial⟩;obtain⟨r1,r2,r3⟩:=B3j hr (by omega) hmx;obtain⟨s1,e1,t1,k1⟩:=A9U (b:=0) (i:=1) (t:=2) e.size e hr (zaq _) 1 [] w0 sg0 (by omega) (by simp;omega) I (λx hx=>by cases hx) (λx hx=>by cases hx) T0 hrn;have hx:K9 e.size e 1 [] w0=J5 e mx:=rfl;rw[hx]at e1 t1;have tc:TG e BN=TG e BN:=rfl;have Im:C9.r Bt [(.undef,.ptr (Vq 5 mx).length 0),(e.D9,.val),(iI 1,.val),(.list 3 [],.val)] (Vq 5 mx++[E5.box ((.undef,(.ptr 0 0))::(zz4 [((iI 0),.val)]))])=_:=e1;have dp:A5B (.int .u64 0)=some 0:=rfl;have ln:(Vq 5 mx).length=2:=rfl;have shape:∃m ts vs ks,(J5 e mx).2.2=.mk m ts vs ks/\m=(J5 e mx).2.1:=by
  unfold J5;have:e.size≠0:=by have:=e.size_eq;omega
  obtain⟨f,hf⟩:=Nat.exists_eq_succ_of_ne_zero this;rw[hf,K9];exact⟨_,_,_,_,rfl,rfl⟩
 obtain⟨m,ts,vs,ks,hd,qf⟩:=shape;have B72:(J5 e mx).2.2.cnt<=2 ^ 30:=z8q (A9h e.size e hr 1 [] w0) (by omega);obtain⟨y,s2,e2,t2,k2,x2⟩:=A7T (J5 e mx).2.2 (J5 e mx).1 s1 t1 r1 r3 B72;obtain⟨n1,n2⟩:=fT (J5 e mx).2.2 (J5 e mx).1 r1;have l2:(AR (J5 e mx).2.2 (J5 e mx).1).s.l.length=(J5 e mx).1.s.l.length:=by rw[n1.l]
 obtain⟨dv,s3,e3,t3,k3,x3⟩:=A9W (J5 e mx).2.2 (AR (J5 e mx).2.2 (J5 e mx).1) s2 t2 n1.ok (by rw[l2];exact r3) B72;have da:=wR (J5 e mx).2.2;have tcc:=TG e BN;rw[hr]at tcc;simp only[F6]at tcc;have e2':C9.r FI [(.undef,.ptr (Vq 5 mx).length 0),((J5 e mx).2.2.D9,.val)] s1=_:=e2;have e3':C9.r GM [(.undef,.ptr (Vq 5 mx).length 0),((J5 e mx).2.2.D9,.val)] s2=_:=e3;have ok':C9.r U1 [(.undef,.ptr (Vq 5 mx).length 0)] s3=_:=JS t3;simp only[AF,F8,NJ,tcc,I7,Dz,J9,zbq,F3,z1q,G9,nw,z0q,dp,Im,Nc,Nf,da.1,da.2,e2',Az,e3',Jt,ok',U2];have b3:H5 s3 (Vq 5 mx).length=_:=t3.box;by_cases g:(BM (J5 e mx).2.2 (AR (J5 e mx).2.2 (J5 e mx).1)).1.err=0
 ·simp only[g,J9,zbq,z1q,G9]
  unfold W9;simp only;rw[A7 (λh=>h g)];have cm:=n1.ok.cm;have mm:=n1.ok.mm;obtain⟨f1,-,f3⟩:=A0p (J5 e mx).2.2 (AR (J5 e mx).2.2 (J5 e mx).1) (J5 e mx).1.s.l.length n1.ok r3 (by
   have he:(AR (J5 e mx).2.2 (J5 e mx).1).err=0:=by
    by_cases he:(AR (J5 e mx).2.2 (J5 e mx).1).err=0
    ·exact he
    ·exfalso;rw[hd,BM]at g;have e0:∀(l:List Nat)(w:W),w.err≠0->(Ar l w).1=w:=λl w h=>by cases l with
      |nil=>rfl
      |cons a l=>rw[Ar,A9 h]
     rw[hd]at he;simp only[e0 ts _ he]at g;rw[(vR ks _ he).2.1]at g;exact he g
   have:=(n2 he).2;omega)
  obtain⟨f4,f5⟩:=f3 g;have hy:y=((J5 e mx).1.s.read (J5 e mx).2.1).2.1:=by rw[x2 (n2 f4).1 m ts vs ks hd,qf]
  have hdv:=x3 g;have ysz:y.size<=65536:=by have h0:=(n2 f4).1;have hn:=f4;rw[hd,AR,A7 (λh=>h h0)]at hn;have e':(({ (J5 e mx).1 with s:=((J5 e mx).1.s.read m).1 }:W).fails ((J5 e mx).1.s.read m).2.2 P7)=(J5 e mx).1.rd m:=rfl;rw[e']at hn;obtain⟨o1,-,-,o4⟩:=oo r1 m;have h1:=((YT ks _ o1).2 hn).1;have h2:=(o4 h1).2.1;rw[hy,<- qf];exact((lS r1 m).2.2.2.2 h2).2.1
  obtain⟨h1,h2,-,h4⟩:=Vs ysz
  let mi:=s3.length
  have hm0:Q5 (s3++[.map false []]) mi=some (false,[]):=by simp[Q5,mi]
  have N0:Gt [] []:=⟨λv=>rfl,rfl⟩;have lp:=A2R (m:=mi) (P:=λj sg=>FL C9 (Vq 5 mx).length mi (N9 y.vars) (iN y.vars.length) (iN j) y.D9 dv.D9 sg) (vs:=y.vars) (λj hj sg sg' e=>by show FL C9 (Vq 5 mx).length mi (N9 y.vars) (iN y.vars.length) (iN j) y.D9 dv.D9 sg=FL C9 (Vq 5 mx).length mi (N9 y.vars) (iN y.vars.length) (iN (j+1)) y.D9 dv.D9 sg';rw[aj];simp only[Ac,I7,F3,hj,J9,F6,A6G hj,VU,F8,e,addN (show j<2 ^ 62 by omega)]) y.vars.length 0 _ [] [] (by omega) hm0 N0
  obtain⟨es1,p1,q1⟩:=lp;rw[z7q]at q1;have lmi:mi<(s3++[E5.map false []]).length:=UD hm0;have Sc:=EX lmi es1;obtain⟨es2,p2,q2⟩:=B3y dv (by rw[hdv];exact f5) _ es1 _ Sc q1;rw[zxq]at p2;have uj:=EX lmi es2;have p3:=A9V uj q2 y ysz;have p4:=B7n uj q2 dv (by rw[hdv];exact f5);have ZM:=CY t3.box;have b4:H5 ((s3++[E5.map false []]).set mi (.map false es2)) (Vq 5 mx).length=some (q_ 0 (BM (J5 e mx).2.2 (AR (J5 e mx).2.2 (J5 e mx).1)).1):=by rw[Cv (by have:(2:Nat)<s3.length:=ZM;rw[ln];omega)];unfold H5;rw[zlq (show(Vq 5 mx).length<s3.length from ZM)];exact congrArg (λo=>match o with | some (E5.box cs)=>some cs | _=>none) (XI t3.box)
  have st4:Y7 0 1 (BM (J5 e mx).2.2 (AR (J5 e mx).2.2 (J5 e mx).1)).1.s ((s3++[E5.map false []]).set mi (.map false es2)):=by obtain⟨ms,v,a⟩:=t3.st.app [E5.map false []];have:=t3.st.lt;exact(a.gB (by omega) (by omega) _).at
  have oe:∀{β : Type}(y:Option β),Mv True y=y:=λy=>by unfold Mv;rw[A9 trivial]
  simp only[Zv,zH y h1 h2];simp only[I7,A2N];have p1':FL C9 (Vq 5 mx).length s3.length (N9 y.vars) (iN y.vars.length) (iI 0) y.D9 dv.D9 (s3++[.map false []])=_:=p1;rw[p1',aj];simp only[Ac,zeq,T9,I7,F3,z1q,G9,A5a,Zv,p2,p3,p4,b4,Jj,oe,A7N st4,z0q,Az,Jt,F8,P5];simp only[Ty.CK,Ty.FZ,Ty.Dl,K8.CK,K8.FZ,K8.Dl,A5a,Zv,p2,p3,p4,b4,Jj,oe,A7N st4,z0q,Az,Jt,F8,P5,I7];rw[<- hdv,<- hy];rfl
 ·simp only[g,T9,zhq,F6,b3,I7]
  unfold W9;simp only;rw[A9 g];rfl
end
def A9j(t:Ty):t.dn<=t.size:=by
 induction t using Ty.ind with
 |h t ih=>
   have key:∀ts:List Ty,(∀k∈ts,k∈t.D5)->Ty.EY ts<=(ts.map Ty.size).sum:=by
    intro ts;induction ts with
    |nil=>intro _;rw[Ty.EY];exact Nat.zero_le _
    |cons k ts ihs=>intro h;rw[Ty.EY,ziq,zsq];exact Nat.add_le_add (ih k (h k (zkq ..))) (ihs λx hx=>h x (zfq _ hx))
   rw[Ty.A49,Ty.size_eq];have:=key t.D5 λk hk=>hk;split<;>omega
def lh(t:Ty):t.thin=true->∀n:Int,0<=n->n<=401->∃m:Int,C9.p FK [t.D9,iI n]=some (iI m)/\n<=m/\m<=401/\(m<=400->n+t.size<=m+1):=by
 induction t using Ty.ind with
 |h t ih=>
   intro ht n h0 h1;have hb:=t.Gm ht;have loop:∀(k j:Nat)(n:Int),j+k=t.D5.length->0<=n->n<=401->∃m:Int,Kv C9 (iI n) (iI j) t.D9=some (iI m)/\n<=m/\m<=401/\(m<=400->n+(((t.D5.drop j).map Ty.size).sum:Nat)<=m):=by
    intro k;induction k with
    |zero=>
      intro j n hj h0 h1;refine⟨n,?_,Int.le_refl _,h1,λ_=>by rw[z5q (by omega)];simp⟩;have:¬j<t.D5.length:=by omega
      rw[KL];simp[this]
    |succ k ihk=>
      intro j n hj h0 h1;have O9:j<t.D5.length:=by omega
      rw[KL];by_cases hn:n<=400
      ·have VK:D7 .add (iI n) (iI 1)=some (iI (n+1)):=Rv (by omega) (by omega);obtain⟨m,a1,a2,a3,a4⟩:=ih _ (z3q O9) (Ty.Ih ht (z3q O9)) (n+1) (by omega) (by omega);obtain⟨m',b1,b2,b3,b4⟩:=ihk (j+1) m (by omega) (by omega) a3;push_cast at b1;exact⟨m',by simp[O9,hn,VK,V8 O9,Ty.AA,Ty.ag,a1,CX (show j<9223372036854775807 by omega),b1],by omega,b3,λhm=>by have g1:=b4 hm;have g2:=a4 (by omega);rw[z2q O9,ziq,zsq];push_cast;omega⟩
      ·exact⟨n,by simp[O9,hn],Int.le_refl _,h1,λh=>absurd h hn⟩
   obtain⟨m,a1,a2,a3,a4⟩:=loop t.D5.length 0 n (by omega) h0 h1;refine⟨m,(Rw _ _).trans ?_,a2,a3,λhm=>by have:=a4 hm;have:=t.size_eq;rw[z7q]at *;push_cast at *;omega⟩
   rw[TK];simp;exact a1
def A1Z(t:Ex):t.fit->∀n:Int,0<=n->n<=401->∃m:Int,C9.p OX [t.D9,iI n]=some (iI m)/\0<=m/\m<=402/\(n=401->401<=m)/\(m<=400->n+t.size<=m/\CZ 802 t):=by
 induction t using Ex.ind with
 |h t ih=>
   intro ht n h0 h1;have hk:=big (Nat.le_of_lt ht.one.D5);have hp:=big (Nat.le_of_lt ht.one.J7);have e12:∀m:Int,0<=m->m<=402->∃m':Int,MP C9 (iI m) t.D9=some (iI m')/\0<=m'/\m'<=402/\(m'=m\/m'=401):=by
    intro m hm uj;rw[eO];by_cases c1:(300:Int)<(t.s.size:Int)
    ·exact⟨401,by simp[c1],by omega,by omega,.inr rfl⟩
    by_cases c2:(300:Int)<(t.name.size:Int)
    ·exact⟨401,by simp[c1,c2],by omega,by omega,.inr rfl⟩
    by_cases c3:(300:Int)<(t.arg.size:Int)
    ·exact⟨401,by simp[c1,c2,c3],by omega,by omega,.inr rfl⟩
    ·exact⟨m,by simp[c1,c2,c3],hm,uj,.inl rfl⟩
   have l9:∀(k j:Nat)(n:Int),j+k=t.D5.length->0<=n->n<=402->∃m:Int,MR C9 (iI n) (iI j) t.D9=some (iI m)/\0<=m/\m<=402/\(401<=n->401<=m)/\(m<=400->n+(((t.D5.drop j).map Ex.size).sum:Nat)<=m/\∀k∈t.D5.drop j,CZ 802 k):=by
    intro k;induction k with
    |zero=>
      intro j n hj h0 h1;obtain⟨m,a1,a2,a3,a4⟩:=e12 n h0 h1;have:¬j<t.D5.length:=by omega
      refine⟨m,by rw[PX];simp[this,a1],a2,a3,λ_=>by omega,λhm=>?_⟩;rw[z5q (by omega)];simp;omega
    |succ k ihk=>
      intro j n hj h0 h1;have O9:j<t.D5.length:=by omega
      by_cases hn:n<=400
      ·obtain⟨m,a1,a2,a3,a4,a5⟩:=ih _ (z3q O9) (ht.kid (z3q O9)) n h0 (by omega);obtain⟨m',b1,b2,b3,b4,b5⟩:=ihk (j+1) m (by omega) a2 a3;push_cast at b1;refine⟨m',by rw[PX];simp[O9,hn,V8 O9,Ex.AA,Ex.ag,a1,CX (show j<9223372036854775807 by omega),b1],b2,b3,λh=>absurd h (by omega),λhm=>?_⟩;have g1:=b5 hm;have g2:m<=400:=by
        by_cases h:m<=400
        ·exact h
        ·have:=b4 (by omega);omega
       have g3:=a5 g2;rw[z2q O9,ziq,zsq];push_cast;exact⟨by omega,λk hk=>by
        rcases znq.1 hk with rfl | hk
        ·exact g3.2
        ·exact g1.2 k hk⟩
      ·obtain⟨m,a1,a2,a3,a4⟩:=e12 n h0 h1;exact⟨m,by rw[PX];simp[O9,hn,a1],a2,a3,λ_=>by omega,λhm=>absurd hm (by omega)⟩
   have e8:∀n:Int,0<=n->n<=402->∃m:Int,OI C9 (iI n) t.D9=some (iI m)/\0<=m/\m<=402/\(401<=n->401<=m)/\(m<=400->n+((t.D5.map Ex.size).sum:Nat)<=m/\∀k∈t.D5,CZ 802 k):=by intro n h0 h1;obtain⟨m,a1,a2,a3,a4,a5⟩:=l9 t.D5.length 0 n (by omega) h0 h1;exact⟨m,by rw[jh];simpa using a1,a2,a3,a4,by simpa using a5⟩
   have l5:∀(k j:Nat)(n:Int),j+k=t.J7.length->0<=n->n<=402->∃m:Int,MQ C9 (iI n) (iI j) t.D9=some (iI m)/\0<=m/\m<=402/\(401<=n->401<=m)/\(m<=400->n+((t.D5.map Ex.size).sum:Nat)<=m/\∀k∈t.D5,CZ 802 k):=by
    intro k;induction k with
    |zero=>
      intro j n hj h0 h1;obtain⟨m,a1,a2,a3,a4,a5⟩:=e8 n h0 h1;have:¬j<t.J7.length:=by omega
      exact⟨m,by rw[PW];simp[this,a1],a2,a3,a4,a5⟩
    |succ k ihk=>
      intro j n hj h0 h1;have O9:j<t.J7.length:=by omega
      by_cases hn:n<=400
      ·obtain⟨m,a1,a2,a3⟩:=A1Y _ (F5.zg (ht.one.pat _ (z3q O9))) n h0 (by omega);obtain⟨m',b1,b2,b3,b4,b5⟩:=ihk (j+1) m (by omega) (by omega) (by omega);push_cast at b1;refine⟨m',by rw[PW];simp[O9,hn,V8 O9,F5.AA,F5.ag,a1,CX (show j<9223372036854775807 by omega),b1],b2,b3,λh=>absurd h (by omega),λhm=>?_⟩;have:=b5 hm;exact⟨by omega,this.2⟩
      ·obtain⟨m,a1,a2,a3,a4,a5⟩:=e8 n h0 h1;exact⟨m,by rw[PW];simp[O9,hn,a1],a2,a3,a4,a5⟩
   have VK:D7 .add (iI n) (iI 1)=some (iI (n+1)):=Rv (by omega) (by omega);by_cases hn1:n+1<=401
   ·obtain⟨ma,a1,a2,a3,a4⟩:=lh _ ht.one.a (n+1) (by omega) hn1;obtain⟨mb,b1,b2,b3,b4⟩:=lh _ ht.one.b ma (by omega) a3;obtain⟨m,c1,c2,c3,c4,c5⟩:=l5 t.J7.length 0 mb (by omega) (by omega) (by omega);refine⟨m,(Yd _ _).trans ?_,c2,c3,λh=>absurd h (by omega),λhm=>?_⟩
    ·rw[au];simp[VK,Ty.AA,Ty.ag,a1,b1];exact c1
    ·obtain⟨d1,d2⟩:=c5 hm;have e1:=t.size_eq;have e2:=b4 (by omega);have e3:=a4 (by omega);have e4:=A9j t.a;have e5:=A9j t.b;refine⟨by push_cast at *;omega,.mk (by omega) (by omega) d2⟩
   ·-- more than enough
    have hn:n=401:=by omega
    subst hn;have A5y:∀y:Ty,C9.p FK [y.D9,iI 402]=some (iI 402):=by intro y;refine(Rw _ _).trans ?_;rw[TK];simp;rw[KL];by_cases h:0<y.D5.length<;>simp[h]
    obtain⟨m,c1,c2,c3,c4,c5⟩:=l5 t.J7.length 0 402 (by omega) (by omega) (by omega);refine⟨m,(Yd _ _).trans ?_,c2,c3,λ_=>c4 (by omega),λhm=>absurd (c4 (by omega)) (by omega)⟩;rw[au];simp[VK,Ty.AA,Ty.ag,A5y];exact c1
section
variable (r:zL)
def zL.ag:DV:=.agg [.int .i64 r.ty.E8,.int .i64 r.ty.n,.list 3 (r.ty.D5.map Ty.D9),.list 3 (r.dv.types.map Ty.D9),N9 r.dv.vars,.list 3 (r.dv.D5.map K8.D9),iN r.cnt]
theorem A9L:Q0 0 r.D9=some r.ag:=rfl
theorem A9M:Q0 1 r.D9=some r.bad.D9:=rfl
theorem A9N:Q0 2 r.D9=some (iN r.err):=rfl
theorem B5Z:I5 7 r.ag=true:=rfl
variable (b:GJ)
theorem B5z:I5 6 b.D9=true:=rfl
theorem B8U:C8 6 r.ag=iN r.cnt:=rfl
theorem B9P:C8 3 r.ag=.list 3 (r.dv.types.map Ty.D9):=rfl
theorem A5j:DV.agg [C8 0 r.ag,C8 1 r.ag,C8 2 r.ag]=r.ty.D9:=by rw[Ty.N8];rfl
theorem B0g:DV.agg [C8 0 b.D9,C8 1 b.D9,C8 2 b.D9,C8 3 b.D9,C8 4 b.D9,C8 5 b.D9]=b.D9:=rfl
def B0h:tY [.int,.int,.int,.int,.int,.str] b.D9 b.D9=some true:=by simp[tY,GJ.D9,Ay,B0r,iN]
variable (s:ByteArray)
theorem A8Q:C9.p ZP [.str s]=some (LV 1 0 0 s).D9:=by refine(A57 _).trans ?_;rw[A8j];have:I9 (.str s)=true:=rfl;simp only[this,F8];rw[Ex.N8];rfl
theorem B3x:C9.p mD []=some NM.D9:=by refine A8e ?_;rw[B2m];have h:C9.p ZP [.str ⟨#[120]⟩]=some (LV 1 0 0 xB).D9:=A8Q _;simp only[h,I7,AF,F8];rw[Ex.N8 NM];rfl
def zO(k lo hi:Int)(s:ByteArray):CZ 802 (LV k lo hi s):=.mk (by simp[LV,Ty.dn,Ty.EY]) (by simp[LV,Ty.dn,Ty.EY]) (by simp[LV])
def B1O{e:Ex}(hr:e.right=true)(WS:e.V9<2 ^ 28)(hs:e.size<=90)(hA:CZ 802 e)(n:Nat)(hn:n<=65536):C9.p Ck [e.D9,iN n]=some (W9 e n).D9:=by
 have e1:(min (max (n:Int) 0) 65536).toNat=n:=by omega
 have:=B3t hr WS (n:Int) (by rw[e1];exact A9P hr (by omega) hn hA (by omega) (by omega));rw[e1]at this;exact this
theorem zJ:C9.p JV []=some (.bool true):=by
 refine A2e ?_;rw[A5L];have a1:CZ 802 NM:=.mk (by simp[NM,Ty.dn,Ty.EY]) (by simp[NM,Ty.dn,Ty.EY]) (by simp[NM];exact zO _ _ _ _);have a2:CZ 802 IX:=.mk (by simp[IX,Ty.dn,Ty.EY]) (by simp[IX,Ty.dn,Ty.EY]) (by simp[IX];exact⟨zO _ _ _ _,zO _ _ _ _⟩);have zn:(Ty.mk 0 0 []).none=true:=by simp[Ty.none]
 have xn:KQ ⟨#[120]⟩=true:=by decide +kernel
 have r1:NM.right=true:=by rw[Ex.right_eq];simp[NM,LV,Ex.right_eq,Ex.one,Ex.vI,Ex.vJ,Ex.vK,Ex.vL,Ex.vM,Ex.b_,Ex.oV,Ex.A0h,JX,L9,AC,BV,eN,eS,Dr,eA,eB,Aa,Vd,Ve,fQ,zn,xn,xB]
 have r2:IX.right=true:=by rw[Ex.right_eq];simp[IX,LV,Ex.right_eq,Ex.one,Ex.vI,Ex.vJ,Ex.vK,Ex.vL,Ex.vM,Ex.b_,Ex.oV,Ex.A0h,JX,L9,AC,BV,eN,eS,Dr,eA,eB,Aa,Vd,Ve,fQ,zn]
 have m1:NM.V9<2 ^ 28:=by rw[Ex.Bo];simp[NM,LV,Ex.Bo,Ty.size_eq,xB,Y4,ByteArray.size]
 have m2:IX.V9<2 ^ 28:=by rw[Ex.Bo];simp[IX,LV,Ex.Bo,Ty.size_eq,xB,Y4,ByteArray.size]
 have h1:C9.p Ck [NM.D9,.int .i64 100]=some (W9 NM 100).D9:=B1O r1 m1 (by rw[B0V];omega) a1 100 (by omega);have h2:C9.p Ck [NM.D9,.int .i64 1]=some (W9 NM 1).D9:=B1O r1 m1 (by rw[B0V];omega) a1 1 (by omega);have h3:C9.p Ck [IX.D9,.int .i64 100]=some (W9 IX 100).D9:=B1O r2 m2 (by rw[B22];omega) a2 100 (by omega);have ep:IX.D9=.agg ((.int .i64 16)::(J_ (zz5 ((.int .i64 1)::(Fq (Fq [.list 7 [],.list 16 [.agg ((.int .i64 2)::(J_ (dM []))),.agg ((.int .i64 5)::(.int .i64 4)::(.int .i64 6)::(.str ⟨#[]⟩)::(dM []))]])))))):=by simp[IX,LV,Ex.N8,Y4]
 rw[ep]at h3;have two:C9.p Xc [.int .i64 9,.agg [.int .i64 6,.int .i64 0,.list 3 []],.agg [.int .i64 6,.int .i64 0,.list 3 []]]=some (Ty.mk 9 0 [.mk 6 0 [],.mk 6 0 []]).D9:=by
  have e:DV.agg [.int .i64 6,.int .i64 0,.list 3 []]=(Ty.mk 6 0 []).D9:=by rw[Ty.N8];rfl
  rw[e];exact A10 9 (.mk 6 0 []) (.mk 6 0 [])
 obtain⟨e1,e2,e3,e4⟩:=C0r;obtain⟨p1,p2⟩:=B8H;have th:(W9 NM 100).ty.thin=true:=by rw[e3];exact Ty.Hy (by simp[Ty.size_eq,R6])
 have ks:=vY (W9 NM 100).ty th (W9 NM 100).ty;simp only[B3x,I7,h1,A9L,A9M,A9N,B5Z,B5z,F8,h2,h3];rw[A2i,e1,p1,p2,B9C];have n0:D7 .eql (iN 0) (.int .i64 0)=some (.bool true):=rfl;have n4:D7 .eql (iN 4) (.int .i64 4)=some (.bool true):=rfl;have n7:D7 .eql (iN 7) (.int .i64 7)=some (.bool true):=rfl;have n1:D7 .eql (iN 1) (.int .i64 1)=some (.bool true):=rfl;have dq:=B0h ⟨4,6,4,4,1,Y4⟩;have bq:(⟨4,6,4,4,1,Y4⟩:GJ).D9=DV.agg [.int .i64 4,.int .i64 6,.int .i64 4,.int .i64 4,.int .i64 1,.str ⟨#[]⟩]:=rfl;rw[bq]at dq;rw[<- e3]at two;simp only[n0,I7,Q3,F6,two,A5j,ks,J9,B9P,A2O,e4,n1,B8U,e2,n7,n4,B0g];rw[bq,dq];rfl
end
def A4W(e f:Ex)(fe:e.fit)(ff:f.fit)(me:e.V9<=1048576)(mf:f.V9<=1048576):∃b:Bool,C9.p gN [.list 16 [e.D9,f.D9]]=some (.bool b)/\(b=false->e.size+f.size<=90/\CZ 802 e/\CZ 802 f):=by
 have e0:O0 16 (.list 16 [e.D9,f.D9]) (iI 0)=some e.D9:=rfl;have e1:O0 16 (.list 16 [e.D9,f.D9]) (iI 1)=some f.D9:=rfl;have i0:D7 .add (iI 0) (iI 1)=some (iI 1):=rfl;have i1:D7 .add (iI 1) (iI 1)=some (iI 2):=rfl;have e2:O6 (.list 16 [e.D9,f.D9])=some (iI 2):=rfl;have l0:D7 .lss (iI 0) (iI 2)=some (.bool true):=rfl;have l1:D7 .lss (iI 1) (iI 2)=some (.bool true):=rfl;have l2:D7 .lss (iI 2) (iI 2)=some (.bool false):=rfl;have H:∃b:Bool,C9.p gM [.list 16 [e.D9,f.D9]]=some (.bool b)/\(b=false->CZ 802 e/\CZ 802 f):=by
  obtain⟨m,a1,a2,a3,a4,a5⟩:=A1Z e fe 0 (by omega) (by omega);have second:∃k:Int,C9.p OX [f.D9,iI m]=some (iI k)/\(k<=400->m<=400/\CZ 802 f):=by
   by_cases g:m<=400
   ·obtain⟨k,c1,c2,c3,c4,c5⟩:=A1Z f ff m a2 (by omega);exact⟨k,c1,λh=>⟨g,(c5 h).2⟩⟩
   ·obtain⟨k,c1,c2,c3⟩:=xR f ff m (by omega) (by omega);exact⟨k,c1,λh=>by omega⟩
  obtain⟨k,c1,c2⟩:=second;refine⟨decide (400<k),(A4D _).trans ?_,λh=>?_⟩
  ·rw[A5K,Uk];simp only[e2,I7,l0,F3,F6,e0,NJ,a1,i0];rw[Uk];simp only[e2,I7,l1,F3,F6,e1,NJ,c1,i1];rw[Uk];simp only[e2,I7,l2,F3,z1q,G9];simp
  ·have hk:k<=400:=by simpa using h
   obtain⟨c3,c4⟩:=c2 hk;exact⟨(a5 c3).2,c4⟩
 obtain⟨b,h1,h2⟩:=H;cases b with
 |true=>refine⟨true,(qX _).trans ?_,λh=>by simp at h⟩;rw[uB];simp only[h1,I7,F3,F6]
 |false=>
   obtain⟨h3,h4⟩:=h2 rfl;have s1:=e.NP;have s2:=f.NP;refine⟨decide (90<e.size+f.size),(qX _).trans ?_,λh=>⟨by simpa using h,h3,h4⟩⟩;rw[uB];have p0:D7 .add (iI 0) (iI e.size)=some (iI (0+e.size)):=Rv (by omega) (by omega);have p1:D7 .add (iI (0+e.size)) (iI f.size)=some (iI (0+e.size+f.size)):=Rv (by omega) (by omega);simp only[h1,I7,F3,z1q,G9];rw[Um];simp only[e2,I7,l0,F3,F6,e0,NJ,zF e fe (by unfold R6;omega),p0,i0]
   rw[Um];simp only[e2,I7,l1,F3,F6,e1,NJ,zF f ff (by unfold R6;omega),p1,i1]
   rw[Um];simp only[e2,I7,l2,F3,z1q,G9];simp;omega
def LZ(e f:Ex):Ex:=.mk 6 0 0 Y4 Y4 0 Y4 0 (.mk 0 0 []) (.mk 0 0 []) [] [e,f]
section
variable {e f:Ex}
def B1j(he:e.right=true)(hf:f.right=true):(LZ e f).right=true:=by
 have zn:(Ty.mk 0 0 []).none=true:=by simp[Ty.none]
 rw[Ex.right_eq];simp[LZ,Ex.one,Ex.vI,Ex.vJ,Ex.vK,Ex.vL,Ex.vM,Ex.b_,Ex.oV,Ex.A0h,JX,L9,AC,BV,eN,eS,Dr,eA,eB,Aa,Vd,Ve,fQ,zn,he,hf]
def B2Z:(LZ e f).size=1+e.size+f.size:=by rw[Ex.size_eq];simp[LZ];omega
def B2Y:(LZ e f).V9=3+e.V9+f.V9:=by rw[Ex.Bo];simp[LZ,fQ,Ty.size_eq];omega
def B4S(he:CZ 802 e)(hf:CZ 802 f):CZ 802 (LZ e f):=.mk (by simp[LZ,Ty.dn,Ty.EY]) (by simp[LZ,Ty.dn,Ty.EY]) (by simp[LZ];exact⟨he,hf⟩)
theorem B4T:DV.agg ((iI 6)::(J_ (zz5 ((iI 0)::(Fq (Fq [.list 7 [],.list 16 [e.D9,f.D9]]))))))=(LZ e f).D9:=by rw[Ex.N8 (LZ e f)];rfl
end
def A78{e:Ex}(hr:e.right=true)(WS:e.V9<2 ^ 28)(hs:e.size<=100)(hA:CZ 802 e):C9.p Ck [e.D9,iI 65536]=some (W9 e 65536).D9:=by
 have e1:(min (max (65536:Int) 0) 65536).toNat=65536:=by omega
 have:=B3t hr WS 65536 (by rw[e1];exact A9P hr hs (by omega) hA (by omega) (by omega));rw[e1]at this;exact this
def B96(a:Nat):D7 .eql (iN a) (iI 7)=some (.bool (decide (a=7))):=PT a 7
def C0w(a:Nat):D7 .neq (iN a) (iI 0)=some (.bool (!decide (a=0))):=YS a 0
def B1i{a b:zL}(hA:a.ty.size<=65536)(hB:TyF b.ty)(t13 b8 b11:DV):∀(q j:Nat),j+q=b.ty.vars.length->
 Cs C9 t13 (IP ((Fv b.ty.vars a.ty.vars.length).take j)) (N9 b.ty.vars) (iN j) a.ag b8 b11=Cs C9 t13 (IP (Fv b.ty.vars a.ty.vars.length)) (N9 b.ty.vars) (iN b.ty.vars.length) a.ag b8 b11:=by
 have ul:(Fv b.ty.vars a.ty.vars.length).length=b.ty.vars.length:=zqq ..;obtain⟨-,-,-,vA⟩:=Vs hA;obtain⟨-,-,-,vB⟩:=Vs hB.size;intro q;induction q with
 |zero=>intro j hj;rw[zdq (by omega),show j=b.ty.vars.length by omega]
 |succ q ih=>
   intro j hj;have O9:j<b.ty.vars.length:=by omega
   have ev:b.ty.vars[j]=(j:Int):=by
    have:b.ty.vars[j]?=((List.range b.ty.vars.length).map Int.ofNat)[j]?:=by rw[<- hB.vars]
    rw[List.getElem?_eq_getElem O9,List.getElem?_map,List.getElem?_range O9]at this;simpa using this
   have ad:D7 .add (iN a.ty.vars.length) (iI b.ty.vars[j])=some (iI (a.ty.vars.length+b.ty.vars[j])):=by rw[iN];exact Rv (by omega) (by omega)
   have ap:=zS (e:=QG) (sz:=4) (l:=(Fv b.ty.vars a.ty.vars.length).take j) (x:=(b.ty.vars[j],.mk 6 (a.ty.vars.length+b.ty.vars[j]) [])) (by rw[zvq];unfold R6;omega);have bn:QG (b.ty.vars[j],.mk 6 (a.ty.vars.length+b.ty.vars[j]) [])=.agg [iI b.ty.vars[j],iI 6,iI (a.ty.vars.length+b.ty.vars[j]),.list 3 []]:=rfl;have lb:∀l:List (Int×Ty),IP l=.list 4 (l.map QG):=λl=>rfl;rw[bn,<- lb,<- lb]at ap;rw[Un];simp only[A2N,I7,Ac,O9,J9,F3,F6,A6G O9,VU,F8,A5j,zB a.ty (show a.ty.size<=R6 by unfold R6;omega),ad,Nl,ap,addN (show j<2 ^ 62 by omega)]
   have:=ih (j+1) (by omega);rw[z6q (by rw[ul];exact O9)]at this;have eg:(Fv b.ty.vars a.ty.vars.length)[j]'(by rw[ul];exact O9)=(b.ty.vars[j],.mk 6 (a.ty.vars.length+b.ty.vars[j]) []):=by unfold Fv;rw[List.getElem_map]
   rw[eg]at this;exact this
def B4U{a b c:zL}(hA:TyF a.ty)(hB:TyF b.ty)(hC:c.ty=.mk 7 0 [a.ty,b.ty.put (Fv b.ty.vars a.ty.vars.length)])(zC:c.ty.size<=65536):
 Cs C9 (iN 0) (.list 4 []) (N9 b.ty.vars) (iI 0) a.ag b.ag c.ag=some (.bool true):=by
 have e:=B1i (a:=a) (b:=b) hA.size hB (iN 0) b.ag c.ag b.ty.vars.length 0 (by omega);have e':Cs C9 (iN 0) (.list 4 []) (N9 b.ty.vars) (iI 0) a.ag b.ag c.ag=_:=e;obtain⟨tB,-,-,vB⟩:=Vs hB.size;obtain⟨-,-,-,vA⟩:=Vs hA.size;have ul:(Fv b.ty.vars a.ty.vars.length).length=b.ty.vars.length:=zqq ..;have bd:∀x∈Fv b.ty.vars a.ty.vars.length,0<=x.1/\x.1<=1048576/\x.2.right=true:=by
  intro x hx;obtain⟨v,hv,rfl⟩:=List.mem_map.1 hx;rw[hB.vars]at hv;obtain⟨j,hj,rfl⟩:=List.mem_map.1 hv;have hj:=List.mem_range.1 hj;refine⟨by simp,by simp only[ztq];omega,?_⟩;have r:∀n:Int,0<=n->n<=1048576->(Ty.mk 6 n []).right=true:=λn h1 h2=>by rw[Ty.right_eq];simp[IJ,h1,h2]
  refine r _ ?_ ?_
  ·simp only[ztq];omega
  ·simp only[ztq];omega
 have rb:Ns (Fv b.ty.vars a.ty.vars.length)=true:=lU.2 bd;have sb:=A12 b.ty (Fv b.ty.vars a.ty.vars.length) tB (by rw[ul];unfold R6;omega) λx hx=>Ty.rA (bd x hx).2.2;rw[A9 ⟨hB.right,rb⟩]at sb;have n0:D7 .eql (iN 0) (iI 0)=some (.bool true):=rfl;have z0:D7 .eql (iI 0) (iI 0)=some (.bool true):=rfl;have ks:=vY c.ty (Vs zC).1 (.mk 7 0 [a.ty,b.ty.put (Fv b.ty.vars a.ty.vars.length)]);rw[decide_eq_true hC]at ks;rw[e',Un];simp only[A2N,I7,Ac,zeq,T9,F3,z1q,G9,A5j,sb,Nc,Nf,Az,F8,n0,z0,Q3,F6,Zv,A10,ks,zJ]
def B4G(e f:Ex)(hm:e.V9+f.V9<=1048576):C9.p dU [e.D9,f.D9]=some (.bool true):=by
 have fe:e.fit:=Ex.Wq (by omega);have ff:f.fit:=Ex.Wq (by omega);refine(xO _ _).trans ?_;rw[zV];obtain⟨b,h1,h2⟩:=A4W e f fe ff (by omega) (by omega);simp only[AF,F8,NJ,h1,I7,Q3];cases b with
 |true=>simp
 |false=>
   obtain⟨hs,aE,aF⟩:=h2 rfl;simp only[z1q,G9,vZ e fe,vZ f ff,I7,U2,F3,Q3]
   by_cases he:e.right=true
   ·by_cases hf:f.right=true
    ·have hp:=B1j he hf;have ps:(LZ e f).size=1+e.size+f.size:=B2Z;have pm:(LZ e f).V9=3+e.V9+f.V9:=B2Y;have r1:=A78 he (by omega) (by omega) aE;have r2:=A78 hf (by omega) (by omega) aF;have r3:=A78 hp (by omega) (by omega) (B4S aE aF);simp only[he,hf,zbq,z1q,G9,r1,r2,B4T,r3,I7,A9L,A9M,A9N,B5Z,B5z,F8];rw[uC];simp only[B96,C0w,I7,Q3,F3,I6,zJ]
     by_cases a7:(W9 e 65536).err=7
     ·rw[A9 a7]
     rw[A7 a7];by_cases b7:(W9 f 65536).err=7
     ·rw[A9 b7]
     rw[A7 b7];by_cases c7:(W9 (LZ e f) 65536).err=7
     ·rw[A9 c7]
     rw[A7 c7];obtain⟨P1,P2,P3⟩:=B20 (p:=LZ e f) rfl rfl hp (by omega) (zaq _) a7 b7 c7;by_cases a0:(W9 e 65536).err=0
     ·simp only[a0,J9,zbq,z1q,G9]
      by_cases b0:(W9 f 65536).err=0
      ·obtain⟨c0,ty⟩:=P3 a0 b0;simp only[b0,J9,zbq,z1q,G9];have tA:=A0r he (show e.size<2 ^ 29 by omega) (zaq _) a0;have tB:=A0r hf (show f.size<2 ^ 29 by omega) (zaq _) b0;obtain⟨zC,-⟩:=A7v hp (show(LZ e f).size<2 ^ 29 by omega) (zaq 65536);rw[c0];simp only[A5j,zB (W9 f 65536).ty (show(W9 f 65536).ty.size<=R6 by have:=tB.size;unfold R6;omega),I7]
       exact B4U tA tB ty zC
      ·obtain⟨q1,q2⟩:=P2 a0 b0;rw[q1,q2];simp[b0,PT,I7,B0g,B0h]
     ·obtain⟨q1,q2⟩:=P1 a0;rw[q1,q2];simp[a0,PT,I7,B0g,B0h]
    ·simp[he,hf]
   ·simp[he]
end Go.Su
