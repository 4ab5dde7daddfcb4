/-
  Parts of the proof, merged: TY9, TY10, T57, TY11, TY12, TY13, TY14, TY15, TY16, TY17, TY18, W25, LCalcRuns.
-/
import Derived.Test.YtglacjdohajkeaaGreatP4
import Derived.Test.YtglacjdohajkeaaGreatP5
import Derived.Test.YtglacjdohajkeaaGreatP6
set_option linter.unusedVariables false
set_option linter.unusedSimpArgs false
/-
 The calculus: what a step keeps, how it ends.
-/
open Bool renaming false_eq_true → z0q, not_true → z3q, not_eq_true' → z6q, not_false → zcq, and_eq_true → zfq, true_and → zTq, and_self → zXq
open Int renaming ofNat_lt → zAq, lt_irrefl → zRq
open List renaming length_map → z1q, drop_eq_getElem_cons → z2q, length_nil → z4q, getElem_mem → z5q, getElem?_set_ne → z7q, length_cons → z8q, getElem?_cons_zero → z9q, mem_cons_of_mem → zaq, getElem?_set_self → zbq, length_append → zdq, drop_of_length_le → zeq, eq_nil_of_length_eq_zero → zgq, getElem?_eq_getElem → zhq, mem_cons_self → ziq, getElem?_cons_succ → zjq, append_assoc → zkq, getElem?_append_right → zlq, drop_zero → zmq, mem_singleton → znq, append_nil → zqq, mem_append → zrq, getD_eq_getElem?_getD → zsq, getLastD_concat → ztq, length_pos_iff → zuq, getD_cons_zero → zvq, take_succ_eq_append_getElem → zwq, take_of_length_le → zxq, map_nil → zyq, getElem?_map → zzq, dropLast_concat → zBq, not_mem_nil → zCq, drop_length → zDq, sum_nil → zEq, mem_cons → zFq, getElem?_append_left → zHq, set_set → zKq, map_cons → zLq, set_append_right → zOq, map_append → zPq, mem_range → zQq, find?_eq_none → zSq, length_zip → zVq, sum_cons → zWq
open Nat renaming le_refl → zoq, zero_add → zpq, sub_self → zGq, add_sub_cancel_left → zIq, le_of_lt → zMq
open Option renaming bind_some → zJq, map_some → zNq, isSome_some → zUq, map_map → zYq
namespace Go.Su
theorem Sm:CQ2 TQ QT where
 g:=fun k h=>TQ.ground h
 ty:=fun y h=>h.r
 r:=fun t h=>h.r
 kid:=fun t h k=>h.kid (by rw [Tm.Cr h.r (.inr k)];omega) (Tm.Nr (by omega) (by omega) (by omega) (by omega))
 cast:=fun c q A B w h0 h1 hA hB hw=>QT.cast h0 h1 hA hB hw
 k2:=fun t h k=>by
  have l:=Tm.Eh h.r (by omega)
  exact ⟨h.kid (by omega) (Tm.Nr (by omega) (by omega) (by omega) (by omega)),h.kid (by omega) (Tm.Nr (by omega) (by omega) (by omega) (by omega))⟩
 ty2:=fun t h k=>h.types k
 pt:=fun y i hi h hl=>h.part hl
inductive Mo:AC->Prop where
 | stuck:Mo A_
 | C1k (l:Int) (n:Bool):Mo (A8j l n)
 | div (lo hi:Int):Mo (atR 3 lo hi)
 | mis (lo hi:Int):Mo (atR 4 lo hi)
theorem Mo.ne0 {r:AC} (h:Mo r):r.kind≠0:=by cases h <;> (first | (show (6:Int)≠0;omega) | (show (2:Int)≠0;omega) | (show (3:Int)≠0;omega) | (show (4:Int)≠0;omega))
def SR.ends (x:SR):Prop:=∀ r,x = .fin r->Mo r
theorem SR.ends.ok (t:Tm):(SR.ok t).ends:=fun r h=>by cases h
theorem SR.ends.fin {r:AC} (h:Mo r):(SR.fin r).ends:=fun r' h'=>by cases h';exact h
theorem SR.ends.good {x:SR} (h:x.ends):x.good:=by
 cases x with
 | ok t=>trivial
 | fin r=>exact (h r rfl).ne0
theorem SR.ends.bind {x:SR} {f:Tm->SR} (hx:x.ends) (hf:∀ t,(f t).ends):(x.bind f).ends:=by
 cases x with
 | ok t=>exact hf t
 | fin r=>exact fun r' h=>hx r' h
theorem A1s (t v:Tm):(V7 t v).ends:=by
 unfold V7
 repeat' split
 all_goals first | exact SR.ends.ok _ | exact SR.ends.fin .stuck | exact SR.ends.fin (.C1k ..)
theorem B3a (t:Tm):t.DF.ends:=by
 induction t using Tm.ind with
 | h t ih =>
   rw [Tm.Gf]
   split
   ·exact A1s _ _
   ·refine SR.ends.bind ?_ fun y=>SR.ends.ok _
    cases h:t.kids with
    | nil=>exact SR.ends.fin .stuck
    | cons a l=>exact ih a (by rw [h];exact ziq ..)
theorem zh:∀ (n:Nat) (t:Tm),(Z4 n t).ends
 | 0,t=>SR.ends.fin .stuck
 | n+1,t=>by
   rw [Z4]
   split
   ·exact SR.ends.ok _
   ·exact SR.ends.bind (B3a t) fun y=>zh n y
theorem Zq (kind:Int) (i:Nat):∀ (l:List Tm) (w:Tm),(BL kind i l w).ends
 | [],w=>SR.ends.ok _
 | c::l,w=>by
   rw [BL]
   split
   ·exact Zq kind i l w
   ·split
    ·exact SR.ends.fin .stuck
    ·exact SR.ends.bind (zh _ _) fun y=>Zq kind i l y
theorem jd {l:List Tm} {x:Tm} {r:AC} (h:AA l x = .fin r):Mo r:=by
 unfold AA at h;cases h0:BL (if x.kind=8 then 8 else 7) 0 l (x.kd 0) with
 | fin r'=>rw [h0] at h;cases h;exact Zq _ _ _ _ _ h0
 | ok a =>
   rw [h0] at h;simp only at h;cases h1:BL (if x.kind=8 then 8 else 7) 1 l (x.kd 1) with
   | fin r'=>rw [h1] at h;cases h;exact Zq _ _ _ _ _ h1
   | ok b=>rw [h1] at h;cases h
theorem Ut (p:D5):p.pat=true->∀ (v:Tm) (r:AC),p.meets v = .fin r->Mo r:=by
 induction p using D5.ind with
 | h p ih =>
   intro hp v r h;rw [D5.WJ p v (D5.Gb hp)] at h
   by_cases k1:p.kind=1
   ·rw [if_pos k1] at h;cases h
   rw [if_neg k1] at h
   by_cases k2:p.kind=2
   ·rw [if_pos k2] at h;cases h
   rw [if_neg k2] at h
   split at h
   ·cases h
   by_cases hk:p.kind=7\/p.kind=9
   ·rw [if_pos hk] at h
    have l2:=D5.Gb hp hk;cases Pt:AA v.chain v.inner with
    | fin r'=>rw [Pt] at h;cases h;exact jd Pt
    | ok a b =>
      rw [Pt] at h;simp only at h;have m0:=D5.Iw (show 0<p.kids.length by omega)
      have m1:=D5.Iw (show 1<p.kids.length by omega)
      cases hm:(p.kd 0).meets a with
      | no=>rw [hm] at h;cases h
      | fin r'=>rw [hm] at h;cases h;exact ih _ m0 (D5.Ej hp m0) a _ hm
      | ok l =>
        rw [hm] at h;simp only [FR.also] at h;cases Ps:(p.kd 1).meets b with
        | no=>rw [Ps] at h;cases h
        | fin r'=>rw [Ps] at h;cases h;exact ih _ m1 (D5.Ej hp m1) b _ Ps
        | ok m=>rw [Ps] at h;cases h
   ·rw [if_neg hk] at h
    split at h <;> cases h
theorem TC (t:Tm) (s:ByteArray) (xs:List Int) (v:Tm):(Gc t s xs v).ends:=by
 unfold Gc
 split
 ·exact SR.ends.ok _
 ·exact SR.ends.fin .stuck
theorem A46:∀ (l:List EY) (x:Tm),(PX l x).ends
 | [],x=>SR.ends.ok _
 | (s,v)::l,x=>by rw [PX];exact SR.ends.bind (TC _ _ _ _) fun y=>A46 l y
theorem A33 (t v:Tm):∀ (ps:List D5) (i:Nat),(∀ p∈ps,p.pat=true)->(EZ t v i ps).ends
 | [],i,_=>SR.ends.fin (.mis ..)
 | p::ps,i,h=>by
   rw [EZ]
   split
   ·rename_i r hr
    exact SR.ends.fin (Ut p (h p (ziq ..)) v r hr)
   ·exact A33 t v ps (i+1) fun q hq=>h q (zaq _ hq)
   ·exact A46 _ _
variable {t:Tm}
theorem B2i (rt:t.right=true):(Re t).ends:=by
 unfold Re
 split
 ·unfold wJ
  repeat' split
  all_goals first | exact TC _ _ _ _ | exact SR.ends.ok _ | exact SR.ends.fin .stuck
 split
 ·exact TC _ _ _ _
 split
 ·exact TC _ _ _ _
 split
 ·split
  ·exact SR.ends.fin .stuck
  ·exact SR.ends.ok _
 split
 ·unfold opF
  repeat' split
  all_goals first | exact SR.ends.ok _ | exact SR.ends.fin .stuck | exact SR.ends.fin (.div ..)
 split
 ·exact A33 _ _ _ _ (Tm.pV rt)
 split
 ·exact A1s _ _
 ·exact SR.ends.fin .stuck
variable {ks:List Tm}
theorem kZ {n:Nat} {i:Nat} (h:Lc n ks=some i):i<n/\(ks.getD i FX).J2=false:=by
 unfold Lc at h;have h1:=List.mem_of_find?_eq_some h;have h2:=List.find?_some h;exact ⟨zQq.1 h1,by simpa using h2⟩
theorem Tm.Jk (rt:t.right=true):Y8 t.kind<=t.kids.length:=by
 unfold Y8
 split
 ·rw [Tm.Eh rt (by omega)];omega
 split
 ·by_cases Qf:t.kind=11
  ·rw [Tm.Eh rt (by omega)];omega
  by_cases h13:t.kind=13
  ·rw [Tm.A84 rt h13];omega
  by_cases yz:t.kind=14
  ·rw [Tm.B2w rt yz];omega
  ·rw [Tm.Cr rt (by omega)];omega
 ·omega
theorem Tm.Li {i:Nat} (hi:i<Y8 t.kind):t.binds i=[]/\t.kind≠1:=by
 unfold Y8 at hi
 split at hi
 ·exact ⟨Tm.Nr (by omega) (by omega) (by omega) (by omega),by omega⟩
 split at hi
 ·exact ⟨Tm.Nr (by omega) (by omega) (by omega) (by omega),by omega⟩
 ·omega
theorem VF (t:Tm):t.right=true->t.Bv.ends:=by
 induction t using Tm.ind with
 | h t ih =>
   intro rt;rw [Tm.fH];cases hd:Lc (Y8 t.kind) t.kids with
   | none=>exact B2i rt
   | some i =>
     obtain ⟨h1,h2⟩:=kZ hd;have hl:=Tm.Jk rt;refine SR.ends.bind ?_ fun y=>SR.ends.ok _
     have:(t.kids.map Tm.Bv).getD i (.fin A_)=(t.kd i).Bv:=by
      rw [zsq,zzq,Tm.TA (by omega)];rfl
     rw [this];exact ih _ (Tm.R9 (by omega)) (Tm.AL rt (by omega))
theorem Own.V4 (h:Own t) (hl:ks.length=t.kids.length):Own (t.V4 ks):=by
 unfold Own at h ⊢
 show t.name.size+t.arg.size+t.s.size+t.vars.length+(t.H6.map D5.N8).sum+ks.length<=1048576
 omega
theorem OT.V4 (h:OT t) (hl:ks.length=t.kids.length):OT (t.V4 ks):=⟨h.1.V4 hl,h.2⟩
theorem Own.EA {v:Tm} (h:v.each Own) (l:DX):(v.EA l).each Own:=Tm.B31 (fun t l ks h hl=>by
 unfold Own at h ⊢;simp only [Tm.Cb,Tm.Gr,Tm.Ls,Tm.GX,Tm.Et,Tm.Q6,hl];exact h) v l h
theorem QT.own (h:QT t):t.each Own:=h.qo.e
theorem QB.own (h:QB t):t.each Own:=Tm.each.imp (fun _ h=>h.1) t h.e
variable {s:ByteArray}
theorem A28 {b v u:Tm} {xs:List Int} (hb:QB b) (hv:QT v) (hx:Cu xs=true) (hf:∀ x∈b.fr [],x=s) (h:b.Ct s xs v=some u):QO u :=
 ⟨Tm.A45 b s xs v hx hv.r hb.r u h,Tm.B4E (fun t ht ks hl=>ht.V4 hl) s xs v (Own.EA hv.own) b hb.own u h,
   Tm.Ga.2 fun x VN=>by
    obtain ⟨h1,h2⟩:=Tm.B1t b s xs v hv.f hb.r u [] (by simp) h x VN
    exact h2 (hf x h1)⟩
theorem zY {b v u:Tm} (hb:QB b) (hv:QT v) (h:b.Ct s [] v=some u):QB u/\∀ x∈u.fr [],x∈b.fr []/\x≠s :=
 ⟨⟨Tm.A45 b s [] v rfl hv.r hb.r u h,Tm.B2H (fun t ht ks hl=>ht.V4 hl) s v hv.e b hb.e u h⟩,
   fun x VN=>Tm.B1t b s [] v hv.f hb.r u [] (by simp) h x VN⟩
theorem A63:∀ (l:List EY) (x u:Tm),QB x->(∀ c∈l,QT c.2)->(∀ y∈x.fr [],y∈l.map Prod.fst)->PX l x = .ok u->QO u
 | [],x,u,hx,hl,hf,h=>by
   rw [PX] at h;cases h;exact ⟨hx.r,hx.own,Tm.Ga.2 fun y hy=>by have:=hf y hy;cases this⟩
 | (s,v)::l,x,u,hx,hl,hf,h=>by
   rw [PX] at h;unfold Gc at h;cases hp:x.Ct s [] v with
   | none=>rw [hp] at h;cases h
   | some y =>
     rw [hp] at h;obtain ⟨h1,h2⟩:=zY hx (hl (s,v) (ziq ..)) hp;refine A63 l y u h1 (fun c hc=>hl c (zaq _ hc)) (fun z hz => ?_) h
     obtain ⟨a,b⟩:=h2 z hz;have:=hf z a;rw [zLq,zFq] at this;exact this.resolve_left b
theorem D5.A4W {p:D5} (hk:p.kids=[]) (h2:p.kind≠2):p.names=[]:=by
 unfold D5.names;rw [D5.Ll,hk,if_neg h2];rfl
theorem D5.B0C (p:D5):p.pat=true->∀ (v:Tm) (l:List EY),p.meets v = .ok l->l.map Prod.fst=p.names:=by
 induction p using D5.ind with
 | h p ih =>
   intro hp v l h;have o:p.one=true:=by rw [D5.eT,zfq] at hp;exact hp.1
   have k0:p.kind≠7->p.kind≠9->p.kids=[]:=by
    intro h7 h9;unfold D5.one at o;refine zgq ?_
    repeat' split at o
    all_goals first | omega | (simp only [zfq,decide_eq_true_eq] at o;first | exact o.1.1.1 | exact o.1.1.2 | exact o.1.2 | omega) | (simp at o)
   rw [D5.WJ p v (D5.Gb hp)] at h
   by_cases k1:p.kind=1
   ·rw [if_pos k1] at h;cases h;rw [D5.A4W (k0 (by omega) (by omega)) (by omega)];rfl
   rw [if_neg k1] at h
   by_cases k2:p.kind=2
   ·rw [if_pos k2] at h;cases h
    unfold D5.names;rw [D5.Ll,k0 (by omega) (by omega),if_pos k2]
    rfl
   rw [if_neg k2] at h
   split at h
   ·cases h
   by_cases hk:p.kind=7\/p.kind=9
   ·rw [if_pos hk] at h
    have l2:=D5.Gb hp hk;cases Pt:AA v.chain v.inner with
    | fin r'=>rw [Pt] at h;cases h
    | ok a b =>
      rw [Pt] at h;have m0:=D5.Iw (show 0<p.kids.length by omega)
      have m1:=D5.Iw (show 1<p.kids.length by omega)
      obtain ⟨m,h1,h2⟩:=FR.A5y h;obtain ⟨q,h3,rfl⟩:=FR.A9k h2;have e0:=ih _ m0 (D5.Ej hp m0) a _ h1;have e1:=ih _ m1 (D5.Ej hp m1) b _ h3;have S_:p.kids=[p.kd 0,p.kd 1]:=by
       match hk:p.kids,l2 with
       | [a,b],_=>simp [D5.kd,hk]
      rw [zPq,e0,e1];unfold D5.names;rw [D5.Ll p,S_,if_neg k2];simp only [List.foldl_cons,List.foldl_nil];rw [D5.eF (p.kd 1) (D5.Cc _ _),D5.eF (p.kd 1) [],List.nil_append]
   ·rw [if_neg hk] at h
    split at h
    ·cases h
    ·cases h;rw [D5.A4W (k0 (by omega) (by omega)) k2];rfl
theorem A6o {t v:Tm} (ht:QT t) (k:t.kind=14) (hv:QT v) (vv:v.J2=true):∀ (ps:List D5) (i:Nat) (u:Tm),ps=t.H6.drop i->EZ t v i ps = .ok u->QO u
 | [],i,u,_,h=>by rw [EZ] at h;cases h
 | p::ps,i,u,hd,h=>by
   have hi:i<t.H6.length:=by
    apply Classical.byContradiction;intro hn;rw [zeq (by omega)] at hd;cases hd
   rw [z2q hi] at hd;obtain ⟨rfl,ES⟩:=List.cons.inj hd;have pp:t.H6[i].pat=true:=Tm.pV ht.r _ (z5q hi);rw [EZ] at h;cases hm:t.H6[i].meets v with
   | fin r=>rw [hm] at h;cases h
   | no=>rw [hm] at h;exact A6o ht k hv vv ps (i+1) u ES h
   | ok l =>
     rw [hm] at h;have hl:=Tm.B2w ht.r k;have hk:i+1<t.kids.length:=by omega
     refine A63 l _ u (ht.toQB.kid (Tm.R9 hk)) (fun c hc=>(((D5.SS Sm _ pp v hv vv).1 l hm).1 c hc).1) (fun y hy => ?_) h
     rw [D5.B0C _ pp v l hm];have:=Tm.zN (Tm.TA hk) ht.f y hy;unfold Tm.binds at this;rw [if_neg (by omega),if_neg (by omega),if_pos ⟨k,by omega⟩,show i+1-1=i by omega,zhq hi] at this
     exact this
end Go.Su

/-
 The calculus: what a whole step keeps.
-/
namespace Go.Su
variable {t:Tm}
theorem QO.C0j {x:Tm} {i:Nat} (ht:QT t) (hb:t.kind≠1) (hx:QO x):QO (t.Y7 i x):=by
 have e:t.Y7 i x=t.V4 (t.kids.set i x):=rfl;have hl:(t.kids.set i x).length=t.kids.length:=by simp
 have mem:∀ k∈t.kids.set i x,k∈t.kids\/k=x:=fun k hk=>List.mem_or_eq_of_mem_set hk
 rw [e];refine ⟨?_, ?_,Tm.Ga.2 fun y hy => ?_⟩
 ·rw [Tm.right_eq,Tm.A9h hl,Tm.AV ht.r,zTq,Tm.Rk,List.all_eq_true]
  intro k hk;rcases mem k hk with h | rfl
  ·exact Tm.BU ht.r h
  ·exact hx.r
 ·refine .mk _ (ht.own.one.V4 hl) fun k hk => ?_
  rcases mem k hk with h | rfl
  ·exact ht.own.kid h
  ·exact hx.e
 ·rcases Tm.DI.1 hy with ⟨h1,-,-⟩ | ⟨j,k,h1,h2⟩
  ·exact hb h1
  ·rw [Tm.Rk] at h1
   rw [Tm.nM] at h2
   by_cases hj:i=j
   ·subst hj
    have hi:i<t.kids.length:=by
     apply Classical.byContradiction;intro hn;rw [List.getElem?_eq_none (by rw [hl];omega)] at h1;cases h1
    rw [zbq hi,Option.some.injEq] at h1;subst h1;exact Tm.XP hx.f _ y h2
   ·rw [z7q hj] at h1
    exact Tm.Ga.1 ht.f y (Tm.DI.2 (.inr ⟨j,k,h1,h2⟩))
theorem B8d (k:t.kind≠1) (h:t.kids=[]):t.free=[]:=Tm.Ga.2 fun x hx=>by
 rcases Tm.DI.1 hx with ⟨h1,-,-⟩ | ⟨j,k,h1,h2⟩
 ·exact k h1
 ·rw [h] at h1;cases h1
theorem A0l:BA.none=true:=by decide
theorem A6U {k n:Int} (h:k=2\/k=3/\(n=0\/n=1)):QO (jZ k n):=by
 refine ⟨?_, .mk _ (by unfold Own jZ;simp only [Tm.Cb,Tm.Gr,Tm.Ls,Tm.GX,Tm.Et,Tm.Q6,z4q,zyq,zEq];decide) fun x hx=>(by cases hx),B8d (by rcases h with h | ⟨h,-⟩ <;> (show k≠1;omega)) rfl⟩
 rw [Tm.right_eq,zfq];refine ⟨?_,rfl⟩;unfold Tm.one Tm.Kj Tm.Lm Tm.Lp Tm.Mt Tm.OQ Tm.lists z8 X7 jZ;rcases h with rfl | ⟨rfl,rfl | rfl⟩ <;> simp [Bn,O5,P9,V3,kA,kB,kN,kS,Ag,Ah,M9,Q5,Q8,Q4,O0] <;> exact ⟨A0l,rfl⟩
theorem B4b {P:Tm->Prop} {s:ByteArray} {a:Ty} {b:Tm} (hs:DW s=true) (ha:a.right=true) (hb:b.right=true):(Tm.mk 9 0 0 s O0 0 O0 0 0 false [] a BA [] [] [b]).right=true:=by
 rw [Tm.right_eq,zfq];refine ⟨?_,by simp [hb]⟩
 unfold Tm.one Tm.Kj Tm.Lm Tm.Lp Tm.Mt Tm.OQ Tm.lists z8 X7;simp [Bn,O5,P9,V3,kA,kB,kN,kS,Ag,Ah,M9,Q5,Q8,Q4,O0,hs,ha,A0l]
 try rfl
theorem B4G {s x:ByteArray} {a b:Ty} {k:Tm} (hs:DW s=true) (hx:DW x=true) (ha:a.right=true) (hb:b.right=true) (hk:k.right=true):(Tm.mk 12 0 0 s x 0 O0 0 0 false [] a b [] [] [k,k]).right=true:=by
 rw [Tm.right_eq,zfq];refine ⟨?_,by simp [hk]⟩
 unfold Tm.one Tm.Kj Tm.Lm Tm.Lp Tm.Mt Tm.OQ Tm.lists z8 X7;simp [Bn,O5,P9,V3,kA,kB,kN,kS,Ag,Ah,M9,Q5,Q8,Q4,O0,hs,hx,ha,hb]
 try rfl
theorem B3s {f v:Tm} (hf:f.right=true) (hv:v.right=true):(Tm.mk 10 0 0 O0 O0 0 O0 0 0 false [] BA BA [] [] [f,v]).right=true:=by
 rw [Tm.right_eq,zfq];refine ⟨?_,by simp [hf,hv]⟩
 unfold Tm.one Tm.Kj Tm.Lm Tm.Lp Tm.Mt Tm.OQ Tm.lists z8 X7;simp [Bn,O5,P9,V3,kA,kB,kN,kS,Ag,Ah,M9,Q5,Q8,Q4,O0,A0l]
 try rfl
theorem Tm.B2Q (h:t.right=true) (k:t.kind=12):DW t.name=true/\DW t.arg=true/\t.a.right=true/\t.b.right=true:=by
 have o:=Tm.AV h;unfold Tm.one z8 X7 at o;simp [k,P9,V3,kA,kB] at o;exact ⟨o.1.1.1.1.2,o.1.1.1.2,o.1.1.2,o.1.2⟩
theorem QT.B2P (h:QT t) (k:t.kind=12):∀ x,x∈(FZ t).fr [t.arg]->False:=by
 intro x hx;have l2:=Tm.Eh h.r (by omega)
 have hk:=Tm.TA (t:=t) (j:=0) (by omega)
 have b0:t.binds 0=[t.name,t.arg]:=by unfold Tm.binds;rw [if_neg (by omega),if_pos k]
 have key:∀ L:List ByteArray,t.name∈L->t.arg∈L->x∈(t.kd 0).fr L->False:=by
  intro L hn ha hx;have h1:=Tm.A4J _ _ _ hx;have h2:=Tm.zN hk h.f x ((Tm.A5L (t.kd 0) L [] x (by simp)).1 hx).1
  rw [b0] at h2;simp only [zFq,zCq,or_false] at h2;rcases h2 with rfl | rfl
  ·exact h1 hn
  ·exact h1 ha
 unfold FZ at hx
 split at hx
 ·rename_i e
  exact key _ (by rw [e];exact ziq ..) (ziq ..) hx
 ·rcases Tm.DI.1 hx with ⟨h1,-,-⟩ | ⟨j,y,h1,h2⟩
  ·cases h1
  ·match j,h1 with
   | 0,h1 =>
     simp only [Tm.Q6,z9q,Option.some.injEq] at h1;subst h1;exact key _ (by simp [Tm.binds]) (by simp) h2
   | 1,h1 =>
     simp only [Tm.Q6,zjq,z9q,Option.some.injEq] at h1;subst h1;exact key _ (by simp [Tm.binds]) (by simp) h2
   | j+2,h1=>simp at h1
theorem QT.DJ (h:QT t) (k:t.kind=12):QT (DJ t):=by
 have l2:=Tm.Eh h.r (by omega)
 obtain ⟨n1,n2,ra,rb⟩:=Tm.B2Q h.r k;have m0:=Tm.R9 (show 0<t.kids.length by omega)
 have q0:=h.toQB.kid m0;obtain ⟨ho,ha,hb,hy⟩:=h.e.one;unfold Own at ho;have n0:O0.size=0:=rfl;have z1:BA.size<=20000:=by rw [Ty.size_eq];decide
 have b:QB (FZ t):=by
  unfold Su.FZ
  split
  ·exact q0
  ·refine ⟨B4G n1 n2 ra rb q0.r, .mk _ ⟨?_,ha,hb,by simp⟩ fun y hy => ?_⟩
   ·unfold Own
    simp only [Tm.Cb,Tm.Gr,Tm.Ls,Tm.GX,Tm.Et,Tm.Q6,z4q,zyq,zEq,z8q];omega
   ·have:y=t.kd 0:=by simpa using hy
    rw [this];exact q0.e
 refine ⟨⟨B4b (P:=fun _=>True) n2 ra b.r, .mk _ ⟨?_,ha,z1,by simp [Su.DJ]⟩ fun y hy => ?_⟩,Tm.Ga.2 fun x hx => ?_⟩
 ·unfold Own Su.DJ
  simp only [Tm.Cb,Tm.Gr,Tm.Ls,Tm.GX,Tm.Et,Tm.Q6,z4q,zyq,zEq,z8q];omega
 ·have:y=Su.FZ t:=by simpa [Su.DJ] using hy
  rw [this];exact b.e
 ·rcases Tm.DI.1 hx with ⟨h1,-,-⟩ | ⟨j,y,h1,h2⟩
  ·cases h1
  ·match j,h1 with
   | 0,h1 =>
     simp only [Su.DJ,Tm.Q6,z9q,Option.some.injEq] at h1;subst h1;refine h.B2P k x ?_;have:(Su.DJ t).binds 0=[t.arg]:=by simp [Tm.binds,Su.DJ]
     rw [this] at h2;exact h2
   | j+1,h1=>simp [Su.DJ] at h1
theorem QT.B0G (h:QT t) (k:t.kind=12) (hz:t.size<=1200):2 * (Su.DJ t).N8<=lim:=by
 have l2:=Tm.Eh h.r (by omega)
 have m0:=Tm.R9 (show 0<t.kids.length by omega)
 have q0:=h.toQB.kid m0;have z0:=Tm.Dy m0;have g:=q0.N8 (by omega)
 obtain ⟨ho,ha,hb,hy⟩:=h.e.one;obtain ⟨s1,s2,-⟩:=Tm.A2D h.r;have n0:O0.size=0:=rfl;have z1:BA.size=1:=by rw [Ty.size_eq];decide
 have e1:(Su.FZ t).N8<=70000+2 * (t.kd 0).N8:=by
  unfold Su.FZ
  split
  ·omega
  ·rw [Tm.Ak]
   simp only [Tm.Cb,Tm.Gr,Tm.Ls,Tm.GX,Tm.Et,Tm.Q6,Tm.av,Tm.a_,Tm.O_,z4q,zyq,zEq,zLq,zWq];omega
 have e2:(Su.DJ t).N8=1+t.arg.size+O0.size+O0.size+0+t.a.size+BA.size+0+0+((Su.FZ t).N8+0):=by
  unfold Su.DJ;rw [Tm.Ak];rfl
 unfold lim;omega
theorem B5r {f v u:Tm} (hf:QT f) (hv:QT v) (h:wJ f v = .ok u):QO u:=by
 unfold wJ at h
 by_cases k9:f.kind=9
 ·rw [if_pos k9] at h
  unfold Gc at h;have l1:=Tm.Cr hf.r (.inl k9);cases hp:(f.kd 0).Ct f.name [] v with
  | none=>rw [hp] at h;cases h
  | some y =>
    rw [hp] at h;cases h;refine A28 (hf.toQB.kid (Tm.R9 (by omega))) hv rfl (fun x hx => ?_) hp
    have:=Tm.zN (Tm.TA (t:=f) (j:=0) (by omega)) hf.f x hx
    unfold Tm.binds at this;rw [if_pos (.inl k9)] at this;simpa using this
 ·rw [if_neg k9] at h
  split at h
  ·cases h
  ·rename_i hn
   cases h;have k16:f.kind=16:=Classical.byContradiction fun h=>hn (.inl h)
   have ka:f.a.kind=9:=Classical.byContradiction fun h=>hn (.inr (.inl h))
   have kb:f.b.kind=9:=Classical.byContradiction fun h=>hn (.inr (.inr h))
   obtain ⟨ra,rb,l0,l1⟩:=Tm.Bd hf.r k16;obtain ⟨ta,tb⟩:=hf.types k16;have al:f.a.kids.length=2:=by have:=Ty.Cm ra;rw [ka] at this;unfold arity at this;simp at this;omega
   have bl:f.b.kids.length=2:=by have:=Ty.Cm rb;rw [kb] at this;unfold arity at this;simp at this;omega
   have pa:∀ i,i<2->TQ (f.a.kd i):=fun i hi=>⟨Ty.A3b ra (by omega),by have:=Ty.Dy (Ty.R9 (t:=f.a) (i:=i) (by omega));have:=ta.z;omega⟩
   have pb:∀ i,i<2->TQ (f.b.kd i):=fun i hi=>⟨Ty.A3b rb (by omega),by have:=Ty.Dy (Ty.R9 (t:=f.b) (i:=i) (by omega));have:=tb.z;omega⟩
   have q0:QT (f.kd 0):=Sm.kid f hf k16;have w:QT (I4 f (!f.neg) (f.b.kd 0) (f.a.kd 0) v):=QT.cast l0 l1 (pb 0 (by omega)) (pa 0 (by omega)) hv
   have app:QO (Tm.mk 10 0 0 O0 O0 0 O0 0 0 false [] BA BA [] [] [f.kd 0,I4 f (!f.neg) (f.b.kd 0) (f.a.kd 0) v]):=by
    refine ⟨B3s q0.r w.r, .mk _ (by unfold Own;simp only [Tm.Cb,Tm.Gr,Tm.Ls,Tm.GX,Tm.Et,Tm.Q6,z4q,zyq,zEq,z8q];decide) fun y hy => ?_,Tm.Ga.2 fun x hx => ?_⟩
    ·simp only [Tm.Q6,zFq,zCq,or_false] at hy
     rcases hy with rfl | rfl
     ·exact q0.own
     ·exact w.own
    ·rcases Tm.DI.1 hx with ⟨h1,-,-⟩ | ⟨j,y,h1,h2⟩
     ·cases h1
     ·match j,h1 with
      | 0,h1 =>
        simp only [Tm.Q6,z9q,Option.some.injEq] at h1;subst h1;exact Tm.XP q0.f _ x h2
      | 1,h1 =>
        simp only [Tm.Q6,zjq,z9q,Option.some.injEq] at h1;subst h1;exact Tm.XP w.f _ x h2
      | j+2,h1=>simp at h1
   exact ⟨A1r l0 l1 (pa 1 (by omega)).r (pb 1 (by omega)).r app.r,A6x (A9i ..) app.e,wN app.f⟩
theorem B1R {v u:Tm} (ht:QT t) (k:t.kind=16) (hv:QT v) (h:V7 t v = .ok u):QO u:=by
 obtain ⟨ra,rb,l0,l1⟩:=Tm.Bd ht.r k;obtain ⟨ta,tb⟩:=ht.types k;have ga:0<=arity t.a.kind:=by have:=Ty.Cm ra;omega
 have gb:0<=arity t.b.kind:=by have:=Ty.Cm rb;omega
 unfold V7 at h
 split at h
 ·cases h;exact hv.qo
 split at h
 ·split at h
  ·cases h
  split at h
  ·cases h
   exact (QT.cast l0 l1 (TQ.ground gb) tb (QT.cast l0 l1 ta (TQ.ground gb) hv)).qo
  split at h
  ·cases h
  ·rename_i hn
   split at h
   ·cases h
    exact (Sm.kid v hv (Classical.byContradiction fun g=>hn (.inl g))).qo
   ·cases h
 split at h
 ·split at h
  ·cases h
  ·cases h
   exact (QT.cast l0 l1 (TQ.ground ga) tb (QT.cast l0 l1 ta (TQ.ground ga) hv)).qo
 ·cases h
theorem B8l {a b u:Tm} (h:opF t a b = .ok u):QO u:=by
 unfold opF at h
 by_cases c:a.kind≠(if t.op=7 then 4 else 2)\/b.kind≠(if t.op=7 then 4 else 2)
 ·rw [if_pos c] at h;cases h
 rw [if_neg c] at h
 by_cases o7:t.op=7
 ·rw [if_pos o7] at h
  cases h;exact A6U (.inr ⟨rfl,by split <;> simp⟩)
 ·rw [if_neg o7] at h
  cases hn:A0G t.op a.n b.n with
  | none=>rw [hn] at h;cases h
  | some n =>
    rw [hn] at h;cases h;refine A6U ?_
    by_cases h5:5<=t.op
    ·rw [if_pos h5]
     refine .inr ⟨rfl, ?_⟩;unfold A0G at hn;rw [if_neg (by omega),if_neg (by omega),if_neg (by omega),if_neg (by omega)] at hn
     split at hn
     ·cases hn;split <;> simp
     ·cases hn;split <;> simp
    ·rw [if_neg h5];exact .inl rfl
theorem B4e {u:Tm} (ht:QT t) (hv:∀ i,i<Y8 t.kind->(t.kd i).J2=true) (h:Re t = .ok u):QO u:=by
 have hm:=Tm.Jk ht.r;have kq:∀ i,i<Y8 t.kind->QT (t.kd i):=fun i hi=>ht.kid (by omega) (Tm.Li hi).1
 have mk:∀ (s:ByteArray) (hs:t.binds 1=[s]),1<t.kids.length->∀ x∈(t.kd 1).fr [],x=s:=fun s hs h1 x hx=>by
  have:=Tm.zN (Tm.TA (t:=t) (j:=1) h1) ht.f x hx;rw [hs] at this;simpa using this
 unfold Re at h
 split at h
 ·rename_i k
  rw [k] at kq;exact B5r (kq 0 (by decide)) (kq 1 (by decide)) h
 split at h
 ·rename_i k
  have l2:=Tm.Eh ht.r (by omega)
  rw [k] at kq;unfold Gc at h;cases hp:(t.kd 1).Ct t.name t.vars (t.kd 0) with
  | none=>rw [hp] at h;cases h
  | some y =>
    rw [hp] at h;cases h;exact A28 (ht.toQB.kid (Tm.R9 (by omega))) (kq 0 (by decide)) (Tm.PZ ht.r) (mk _ (by unfold Tm.binds;rw [if_pos (.inr (.inl ⟨k,rfl⟩))]) (by omega)) hp
 split at h
 ·rename_i k
  have l2:=Tm.Eh ht.r (by omega)
  unfold Gc at h;cases hp:(t.kd 1).Ct t.name t.vars (DJ t) with
  | none=>rw [hp] at h;cases h
  | some y =>
    rw [hp] at h;cases h;exact A28 (ht.toQB.kid (Tm.R9 (by omega))) (ht.DJ k) (Tm.PZ ht.r) (mk _ (by unfold Tm.binds;rw [if_pos (.inr (.inr ⟨k,rfl⟩))]) (by omega)) hp
 split at h
 ·rename_i k
  have l3:=Tm.A84 ht.r k
  split at h
  ·cases h
  ·cases h
   split
   ·exact (ht.kid (by omega) (Tm.Nr (by omega) (by omega) (by omega) (by omega))).qo
   ·exact (ht.kid (by omega) (Tm.Nr (by omega) (by omega) (by omega) (by omega))).qo
 split at h
 ·exact B8l h
 split at h
 ·rename_i k
  rw [k] at kq hv;exact A6o ht k (kq 0 (by decide)) (hv 0 (by decide)) t.H6 0 u (by simp) h
 split at h
 ·rename_i k
  rw [k] at kq;exact B1R ht k (kq 0 (by decide)) h
 ·cases h
theorem wT {n:Nat} {ks:List Tm} (h:Lc n ks=none):∀ i,i<n->(ks.getD i FX).J2=true:=by
 intro i hi;unfold Lc at h;have:=zSq.1 h i (zQq.2 hi);simpa using this
theorem A7f (t:Tm):QT t->∀ u,t.Bv = .ok u->QO u:=by
 induction t using Tm.ind with
 | h t ih =>
   intro ht u h;rw [Tm.fH] at h;cases hd:Lc (Y8 t.kind) t.kids with
   | none=>rw [hd] at h;exact B4e ht (wT hd) h
   | some i =>
     rw [hd] at h;obtain ⟨h1,h2⟩:=kZ hd;have hl:=Tm.Jk ht.r;obtain ⟨b0,k1⟩:=Tm.Li h1;have e:(t.kids.map Tm.Bv).getD i (.fin A_)=(t.kd i).Bv:=by
      rw [zsq,zzq,Tm.TA (by omega)];rfl
     simp only [e] at h;cases hs:(t.kd i).Bv with
     | fin r=>rw [hs] at h;cases h
     | ok x =>
       rw [hs] at h;cases h;exact QO.C0j ht k1 (ih _ (Tm.R9 (by omega)) (ht.kid (by omega) b0) x hs)
end Go.Su

/-
 Substitution of a term for a name: no bound on the N8.
-/
namespace Go.Su
theorem Tm.wK {t:Tm} (h:t.Mr) (i:Nat):(t.binds i).length<=lim:=by
 have e2:(2:Nat)<=lim:=by decide
 unfold Tm.binds
 split
 ·simp only [z8q,z4q];omega
 split
 ·simp only [z8q,z4q];omega
 split
 ·split
  ·rename_i p hp
   have hm:=List.mem_of_getElem? hp;have:=(h.pat p hm).size;have:=p.Ql [];simp only [z4q] at this;unfold D5.names;omega
  ·simp
 ·simp
variable (s:ByteArray) (xs:List Int) (v:Tm)
theorem A93 (hx:Cu xs=true) (ZN:xs.length<=lim) (fv:v.fit) (rv:v.right=true) (t:Tm):t.fit->t.right=true->∀ S:List D8,M5 S 0=some (I_ s xs v) ->
 ∃ (J:List D8) (u:Tm) (b:Bool),(run cfg).r Gh [(.undef, .ptr 0 0),(t.enc, .val)] S=some ([u.enc, .bool b],S++J)/\t.Ct s xs v=(if b=true then some u else none):=by
 induction t using Tm.ind with
 | h t ih =>
   intro ft rt S hS;have hk:=big (zMq ft.one.kids);have loop:∀ (n j:Nat) (cur:List Tm) (J:List D8),j+n=t.kids.length->cur.length=t.kids.length->(∀ i:Nat,j<=i->cur[i]?=t.kids[i]?) ->
    ∃ (J':List D8) (u:Tm) (b:Bool),inLoop t S.length t.kids.length j (S ++ .arr 20 (cur.map Tm.enc)::J)=some ([u.enc, .bool b],S++J') /\
      (Tm.Dr t.binds j (t.kids.drop j) s xs v).map (fun ks=>t.V4 (cur.take j++ks))=(if b=true then some u else none):=by
    intro n
    induction n with
    | zero =>
      intro j cur J hj hc _;have e:j=t.kids.length:=by omega
      subst e;refine ⟨_,_,_,C0g t S J cur hc, ?_⟩;rw [zDq,Tm.K_];simp [zxq (Nat.le_of_eq hc)]
    | succ n ihn =>
      intro j cur J hj hc B50;have h:j<t.kids.length:=by omega
      have h':j<cur.length:=by omega
      have hcj:cur[j]=t.kids[j]:=by
       have:=B50 j (zoq _);rw [zhq h,zhq h'] at this;simpa using this
      have zA:=Tm.wK ft.one j;have iA:=um t ft.one j (fun yz=>by have:=Tm.zO rt yz;omega)
      have hct:=vF (t.binds j) (by omega) s
      have ee:(DV.agg [A7 0 t.enc,A7 1 t.enc,A7 2 t.enc,A7 3 t.enc,A7 4 t.enc,A7 5 t.enc,A7 6 t.enc,A7 7 t.enc,A7 8 t.enc,A7 9 t.enc,A7 10 t.enc,A7 11 t.enc,A7 12 t.enc,A7 13 t.enc,A7 14 t.enc,A7 15 t.enc,A7 16 t.enc,A7 17 t.enc,A7 18 t.enc,A7 19 t.enc])=t.enc:=by simp [Tm.Q9,Tm.ag]
      have ek:∀ k:Tm,(DV.agg [A7 0 k.enc,A7 1 k.enc,A7 2 k.enc,A7 3 k.enc,A7 4 k.enc,A7 5 k.enc,A7 6 k.enc,A7 7 k.enc,A7 8 k.enc,A7 9 k.enc,A7 10 k.enc,A7 11 k.enc,A7 12 k.enc,A7 13 k.enc,A7 14 k.enc,A7 15 k.enc,A7 16 k.enc,A7 17 k.enc,A7 18 k.enc,A7 19 k.enc])=k.enc:=fun k=>by simp [Tm.Q9,Tm.ag]
      have a1:Am 0 t.kids.length (.int .i64 (j:Int))=some j:=by
       show (if (0:Int)<=(j:Int)/\(j:Int)<(t.kids.length:Int) then some (0+(j:Int).toNat) else none)=some j
       rw [if_pos ⟨by omega,by omega⟩]
       simp
      have g1:(cur.map Tm.enc)[j]?=some t.kids[j].enc:=by rw [zzq,zhq h',hcj];rfl
      have cd:X5 (I_ s xs v) 0=some (.str s):=rfl;rw [z2q h,Tm.PW]
      by_cases hb:((t.binds j).any fun x=>decide (x=s))=true
      ·obtain ⟨J',u,b,k1,k2⟩:=ihn (j+1) cur J (by omega) hc (fun i hi=>B50 i (by omega))
       refine ⟨J',u,b, ?_, ?_⟩
       ·rw [<- k1]
        unfold inLoop;rw [Df];simp only [H7,zAq,h,decide_true,E9,C8,if_true,a1,iT,g1,BEq.rfl,D6,ee,iA,iU hS,cd,hct,hb];rw [N9 (by omega)]
        rfl
       ·rw [<- k2,if_pos hb]
        simp only [zJq,zYq]
        congr 1
        funext ks
        simp only [Function.comp_apply];rw [zwq h',hcj,zkq];rfl
      ·have Ef:((t.binds j).any fun x=>decide (x=s))=false:=Bool.eq_false_iff.2 hb
       obtain ⟨J1,u1,b1,f1,f2⟩:=ih _ (z5q h) (ft.kid (z5q h)) (Tm.BU rt (z5q h)) (S ++ .arr 20 (cur.map Tm.enc)::J) (iU hS _);rw [if_neg hb,f2];cases b1
       ·refine ⟨.arr 20 (cur.map Tm.enc)::J++J1,t,false, ?_,by simp⟩
        unfold inLoop;rw [Df];simp only [H7,zAq,h,decide_true,E9,C8,if_true,a1,iT,g1,BEq.rfl,D6,ee,ek,iA,iU hS,cd,hct,Ef,z0q,if_false,f1,I9,zjq,z9q,F9,M8,zcq];rw [zkq]
       ·obtain ⟨J',u,b,k1,k2⟩:=ihn (j+1) (cur.set j u1) (J++J1) (by omega) (by simpa using hc) (fun i hi=>by rw [z7q (by omega)];exact B50 i (by omega))
        refine ⟨J',u,b, ?_, ?_⟩
        ·rw [<- k1]
         unfold inLoop;rw [Df];simp only [H7,zAq,h,decide_true,E9,C8,if_true,a1,iT,g1,BEq.rfl,D6,ee,ek,iA,iU hS,cd,hct,Ef,z0q,if_false,f1,I9,zjq,z9q,F9,M8,z3q,zkq,List.cons_append,B1A];rw [N9 (by omega)]
         simp only [E9,List.map_set]
         try rfl
        ·rw [<- k2]
         simp only [if_true,zJq,zYq]
         congr 1
         funext ks
         simp only [Function.comp_apply];rw [zwq (by simpa using h'),zkq,List.take_set_of_le (zoq _)]
         simp
   have ee:(DV.agg [A7 0 t.enc,A7 1 t.enc,A7 2 t.enc,A7 3 t.enc,A7 4 t.enc,A7 5 t.enc,A7 6 t.enc,A7 7 t.enc,A7 8 t.enc,A7 9 t.enc,A7 10 t.enc,A7 11 t.enc,A7 12 t.enc,A7 13 t.enc,A7 14 t.enc,A7 15 t.enc,A7 16 t.enc,A7 17 t.enc,A7 18 t.enc,A7 19 t.enc])=t.enc:=by simp [Tm.Q9,Tm.ag]
   by_cases h1:t.kind=1
   ·by_cases h2:t.name=s
    ·have cd0:X5 (I_ s xs v) 0=some (.str s):=rfl
     have cd1:X5 (I_ s xs v) 1=some (J9 xs):=rfl;obtain ⟨e,e1,e2⟩:=B0D s xs v;obtain ⟨-,-,rargs⟩:=Tm.jm rt
     by_cases h3:t.args.length=xs.length
     ·by_cases h0:xs=[]
      ·subst h0
       have dR:t.args.length=0:=h3;refine ⟨[],v,true,(CJ _ _ _).trans ?_,by rw [Tm.Mk,if_pos h1,if_pos h2,if_pos h3,List.zip_nil_left,Tm.B0c];rfl⟩
       rw [Cn];simp only [ee];simp [h1,h2,dR,hS,cd0,cd1,e1,e2,Tm.Q9,Tm.ag]
      ·refine ⟨[],v.EA (xs.zip t.args),true,(CJ _ _ _).trans ?_,by rw [Tm.Mk,if_pos h1,if_pos h2,if_pos h3];rfl⟩
       have dQ:¬ (xs.length:Int)=0:=by
        have:=zuq.2 h0;omega
       have hT:=A7S v fv rv (xs.zip t.args) (by rw [zVq];omega) (nA hx rargs)
       have lp:=B58 s xs v t S hS ZN h3;rw [B76 s xs v t S hS e e1 e2 hT] at lp;rw [Cn];have n1:A8 .neq (.str t.name) (.str s)=some (.bool false):=by rw [h2];simp
       have n2:A8 .neq (.int .i64 (t.args.length:Int)) (.int .i64 (xs.length:Int))=some (.bool false):=by rw [h3];simp
       simp only [F9,D6,Tm.Y3 t,Tm.CU t,Tm.Ib t,M0,h1,decide_true,E9,C8,if_true,hS,cd0,cd1,n1,n2,z0q,if_false,K5,z1q,Kv,dQ,decide_false];rw [zqq];exact lp
     ·refine ⟨[],t,false,(CJ _ _ _).trans ?_,by rw [Tm.Mk,if_pos h1,if_pos h2,if_neg h3];rfl⟩
      have n1:A8 .neq (.str t.name) (.str s)=some (.bool false):=by rw [h2];simp
      have n2:A8 .neq (.int .i64 (t.args.length:Int)) (.int .i64 (xs.length:Int))=some (.bool true):=by
       have:¬ (t.args.length:Int)=(xs.length:Int):=by omega
       simp [this]
      rw [Cn];simp only [ee];simp only [F9,D6,Tm.Y3 t,Tm.CU t,Tm.Ib t,M0,h1,decide_true,E9,C8,if_true,hS,cd0,cd1,n1,n2,z0q,if_false,K5,z1q,Kv,zqq]
    ·refine ⟨[],t,true,(CJ _ _ _).trans ?_,by rw [Tm.Mk,if_pos h1,if_neg h2];rfl⟩
     have cd0:X5 (I_ s xs v) 0=some (.str s):=rfl;rw [Cn];simp only [ee];simp [h1,h2,hS,cd0,Tm.Q9,Tm.ag]
   ·by_cases h2:t.kids.length=0
    ·have SL:t.kids=[]:=zgq h2
     refine ⟨[],t,true,(CJ _ _ _).trans ?_, ?_⟩
     ·rw [Cn]
      simp [h1,h2,Tm.Q9,Tm.ag]
     ·rw [Tm.Mk,if_neg h1,SL,Tm.K_]
      simp only [zNq,if_true];rw [<- SL,Tm.uu]
    ·obtain ⟨J,u,b,k1,k2⟩:=loop t.kids.length 0 t.kids [] (by omega) rfl (fun i _=>rfl)
     refine ⟨J,u,b,(CJ _ _ _).trans ?_, ?_⟩
     ·rw [Cn]
      have Pq:¬ (t.kids.length:Int)=0:=by omega
      have J3:t.kids.length<=lim:=zMq ft.one.kids;simp only [F9,D6,Tm.Y3,M0,E9,h1,decide_false,C8,z0q,if_false,Tm.Cs,K5,z1q,Pq,A4e,BEq.rfl,zTq,J3,decide_true];exact k1
     ·rw [Tm.Mk,if_neg h1,<- k2]
      simp
variable (t:Tm)
theorem A7Q (v:Tm) (s:ByteArray) (xs:List Int) (hx:Cu xs=true) (ZN:xs.length<=lim) (fv:v.fit) (rv:v.right=true) (ft:t.fit) (rt:t.right=true):(run cfg).p nW [t.enc, .str s,J9 xs,v.enc]=some (Qn (t.Ct s xs v)):=by
 obtain ⟨J,u,b,h1,h2⟩:=A93 s xs v hx ZN fv rv t ft rt [.box (I_ s xs v)] rfl;refine (yJ _ _ _ _).trans ?_;rw [A1Y];have h1':(run cfg).r Gh [(.undef, .ptr 0 0),(t.enc, .val)] [D8.box [(.str s, .val),(J9 xs, .val),(A7 0 v.enc, .val),(A7 1 v.enc, .val),(A7 2 v.enc, .val),(A7 3 v.enc, .val),(A7 4 v.enc, .val),(A7 5 v.enc, .val),(A7 6 v.enc, .val),(A7 7 v.enc, .val),(A7 8 v.enc, .val),(A7 9 v.enc, .val),(A7 10 v.enc, .val),(A7 11 v.enc, .val),(A7 12 v.enc, .val),(A7 13 v.enc, .val),(A7 14 v.enc, .val),(A7 15 v.enc, .val),(A7 16 v.enc, .val),(A7 17 v.enc, .val),(A7 18 v.enc, .val),(A7 19 v.enc, .val)]]=some ([u.enc, .bool b],[.box (I_ s xs v)]++J):=by
  rw [<- h1];simp [I_]
 have ic:I6 (J9 xs)=true:=rfl;simp only [Lu,F9,D6,Uo,ic,h1',E9,I9,zjq,z9q,M8,C8,h2,aB];cases b <;> simp [Qn]
theorem A56 (ZN:xs.length<=lim) (v:Tm) (t:Tm):t.fit->t.right=true->(run cfg).p TN [t.enc, .str s, .int .i64 xs.length]=some (.bool (t.Ct s xs v).isSome):=by
 induction t using Tm.ind with
 | h t ih =>
   intro ft rt;have hk:=big (zMq ft.one.kids);have loop:∀ (n j:Nat),j+n=t.kids.length->EX (run cfg) (.str s) (.int .i64 xs.length) (.int .i64 (j:Int)) t.enc=some (.bool (Tm.Dr t.binds j (t.kids.drop j) s xs v).isSome):=by
    intro n
    induction n with
    | zero =>
      intro j hj;have e:j=t.kids.length:=by omega
      subst e;rw [Ru,zDq,Tm.K_];simp only [Tm.Cs t,K5,z1q,E9,H7,zRq,decide_false,C8,z0q,if_false,zUq]
    | succ n ihn =>
      intro j hj;have h:j<t.kids.length:=by omega
      have zA:=Tm.wK ft.one j;have iA:=fG t ft.one j (fun yz=>by have:=Tm.zO rt yz;omega)
      have hct:=Zy (t.binds j) (by omega) s
      have B5Y:SK (t.binds j) s=(t.binds j).any fun x=>decide (x=s):=rfl
      have e1:F5 20 (.list 20 (t.kids.map Tm.enc)) (.int .i64 (j:Int))=some t.kids[j].enc:=I8 h;have e4:A8 .add (.int .i64 (j:Int)) (.int .i64 1)=some (.int .i64 ((j+1:Nat):Int)):=N9 (show j<9223372036854775807 by omega)
      have f1:=ih _ (z5q h) (ft.kid (z5q h)) (Tm.BU rt (z5q h));have nx:=ihn (j+1) (by omega)
      rw [z2q h,Tm.PW,Ru];rw [B5Y] at hct;simp only [Lu];simp only [Tm.Cs t,K5,z1q,E9,H7,zAq,h,decide_true,C8,if_true,Lu,iA,hct,M8,H5,e1,f1,e4,nx];cases hb:(t.binds j).any fun x=>decide (x=s)
      ·simp only [zcq,if_true,z0q,if_false]
       cases hp:t.kids[j].Ct s xs v with
       | none=>simp
       | some k'=>simp
      ·simp
   have main:=loop t.kids.length 0 (by omega)
   rw [zmq] at main;have c0:((0:Nat):Int)=0:=rfl;rw [c0] at main;refine (lw _ _ _).trans ?_;rw [rT,Tm.Mk]
   try simp only [Lu]
   simp only [F9,D6,Tm.Y3 t,Tm.CU t,Tm.Ib t,M0,E9,H5,main,K5,z1q]
   by_cases h1:t.kind=1
   ·have SL:=Tm.A82 rt h1
    have n1:A8 .eql (.str t.name) (.str s)=some (.bool (decide (t.name=s))):=by simp
    rw [SL,Tm.K_]
    by_cases h2:t.name=s
    ·by_cases h3:t.args.length=xs.length
     ·have n2:A8 .neq (.int .i64 (t.args.length:Int)) (.int .i64 (xs.length:Int))=some (.bool false):=by rw [h3];simp
      simp [h1,h2,h3,n1,n2]
     ·have dR:¬ (t.args.length:Int)=(xs.length:Int):=by omega
      simp [h1,h2,h3,dR,n1]
    ·simp [h1,h2,n1]
   ·simp only [h1,decide_false,z0q,if_false,Option.isSome_map]
theorem A3f (ZN:xs.length<=lim) (v:Tm) (fv:v.fit) (rv:v.right=true) (t:Tm):t.fit->t.right=true->∀ u,t.Ct s xs v=some u->(run cfg).p Oh [t.enc, .str s,J9 xs,v.enc]=some u.enc:=by
 induction t using Tm.ind with
 | h t ih =>
   intro ft rt u hu;have hk:=big (zMq ft.one.kids);have loop:∀ (n j:Nat) (A ks:List Tm),j+n=t.kids.length->A.length=j->Tm.Dr t.binds j (t.kids.drop j) s xs v=some ks ->
    Gm (run cfg) (.str s) (J9 xs) (.list 20 (A.map Tm.enc)) (.int .i64 (j:Int)) t.enc v.enc =
     some (t.V4 (A++ks)).enc:=by
    intro n
    induction n with
    | zero =>
      intro j A ks hj hA hp;have e:j=t.kids.length:=by omega
      subst e;rw [zDq,Tm.K_] at hp;simp only [Option.some.injEq] at hp;subst hp;rw [N_,zqq];simp only [Tm.Cs t,K5,z1q,E9,H7,zRq,decide_false,C8,z0q,if_false];rw [<- Tm.fK];simp only [Tm.pj,F6]
    | succ n ihn =>
      intro j A ks hj hA hp;have h:j<t.kids.length:=by omega
      have zA:=Tm.wK ft.one j;have iA:=fG t ft.one j (fun yz=>by have:=Tm.zO rt yz;omega)
      have hct:=Zy (t.binds j) (by omega) s
      have B5Y:SK (t.binds j) s=(t.binds j).any fun x=>decide (x=s):=rfl
      have e1:F5 20 (.list 20 (t.kids.map Tm.enc)) (.int .i64 (j:Int))=some t.kids[j].enc:=I8 h;have e4:A8 .add (.int .i64 (j:Int)) (.int .i64 1)=some (.int .i64 ((j+1:Nat):Int)):=N9 (show j<9223372036854775807 by omega)
      have hap:=fun x:Tm=>GZ (e:=Tm.enc) (sz:=20) (l:=A) (x:=x) (by have:=ft.one.kids;omega)
      rw [z2q h,Tm.PW] at hp;rw [B5Y] at hct;rw [N_];simp only [Lu];simp only [Tm.Cs t,K5,z1q,E9,H7,zAq,h,decide_true,C8,if_true,Lu,iA,hct,e1,e4];cases hb:(t.binds j).any fun x=>decide (x=s)
      ·rw [hb] at hp
       simp only [z0q,if_false] at hp ⊢;cases zF:t.kids[j].Ct s xs v with
       | none=>rw [zF] at hp;cases hp
       | some k' =>
         rw [zF,zJq] at hp;cases hp2:Tm.Dr t.binds (j+1) (t.kids.drop (j+1)) s xs v with
         | none=>rw [hp2] at hp;cases hp
         | some m =>
           rw [hp2] at hp;simp only [zNq,Option.some.injEq] at hp;subst hp;have f1:=ih _ (z5q h) (ft.kid (z5q h)) (Tm.BU rt (z5q h)) _ zF;have nx:=ihn (j+1) (A++[k']) m (by omega) (by simp [hA]) hp2
           rw [zkq] at nx;simp only [f1,E9,F9,D6,Lu,hap];exact nx
      ·rw [hb] at hp
       simp only [if_true,zJq] at hp ⊢;cases hp2:Tm.Dr t.binds (j+1) (t.kids.drop (j+1)) s xs v with
       | none=>rw [hp2] at hp;cases hp
       | some m =>
         rw [hp2] at hp;simp only [zNq,Option.some.injEq] at hp;subst hp;have nx:=ihn (j+1) (A++[t.kids[j]]) m (by omega) (by simp [hA]) hp2
         rw [zkq] at nx;simp only [hap,E9];exact nx
   have out:∀ ks,Tm.Dr t.binds 0 t.kids s xs v=some ks->LP (run cfg) (.str s) (J9 xs) t.enc v.enc=some (t.V4 ks).enc:=by
    intro ks hp;rw [Yx];have:=loop t.kids.length 0 [] ks (by omega) rfl (by rw [zmq];exact hp)
    exact this
   refine (bu _ _ _ _).trans ?_;rw [gJ];rw [Tm.Mk] at hu;have n1:A8 .eql (.str t.name) (.str s)=some (.bool (decide (t.name=s))):=by simp
   try simp only [Lu]
   simp only [F9,D6,Tm.Y3 t,Tm.CU t,Tm.Ib t,M0,E9,H5,C8,n1,Lu]
   by_cases h1:t.kind=1
   ·rw [if_pos h1] at hu
    by_cases h2:t.name=s
    ·rw [if_pos h2] at hu
     by_cases h3:t.args.length=xs.length
     ·rw [if_pos h3] at hu
      simp only [Option.some.injEq] at hu;subst hu;have hB:=A9S xs t.args h3.symm ZN;have hT:=A9U v fv rv (xs.zip t.args) (by rw [zVq];omega)
      simp only [h1,h2,decide_true,if_true,hB,E9,hT,F9,D6,Lu]
     ·rw [if_neg h3] at hu;cases hu
    ·rw [if_neg h2] at hu
     simp only [Option.some.injEq] at hu;subst hu;have SL:=Tm.A82 rt h1;have:=out [] (by rw [SL,Tm.K_])
     simp only [h1,h2,decide_true,decide_false,if_true,z0q,if_false,this];rw [<- SL,Tm.uu]
   ·rw [if_neg h1] at hu
    cases hp:Tm.Dr t.binds 0 t.kids s xs v with
    | none=>rw [hp] at hu;cases hu
    | some ks =>
      rw [hp] at hu;simp only [zNq,Option.some.injEq] at hu;subst hu;simp only [h1,decide_false,z0q,if_false];exact out ks hp
theorem A9T (v:Tm) (s:ByteArray) (xs:List Int) (ZN:xs.length<=lim) (ft:t.fit) (fv:v.fit) (hv:2 * v.N8<=lim) (hs:s.size<=4294967000) :
 (run cfg).p vH [t.enc, .str s,J9 xs,v.enc]=some (if t.right=true/\v.right=true/\DW s=true/\v.free=[]/\Cu xs=true then Qn (t.Ct s xs v) else .F3 [A0k.enc, .int .i64 1]):=by
 have hb:=big ZN;refine (A19 _ _ _ _).trans ?_;rw [A4n];simp only [Lu,F9,D6,VD t ft,VD v fv,E9,M8,H5,aB,XE s hs];cases h1:t.right
 ·simp
 cases h2:v.right
 ·simp
 cases h3:DW s
 ·simp
 have hF:=jg v fv h2 hv
 by_cases h4:v.free=[]
 ·have loop:∀ (n j:Nat),j+n=xs.length->Tt (run cfg) (.str s) (J9 xs) (.int .i64 (j:Int)) t.enc v.enc =
   some (if Cu (xs.drop j)=true then Qn (t.Ct s xs v) else .F3 [A0k.enc, .int .i64 1]):=by
   intro n
   induction n with
   | zero =>
     intro j hj;have e:j=xs.length:=by omega
     subst e;rw [zDq];have r0:Cu []=true:=rfl;have hc:=A56 s xs ZN v t ft h1;rw [YR];simp only [Kv,H7,zRq,decide_false,E9,C8,z0q,if_false,Lu,hc,r0,if_true,M8,aB];cases hp:t.Ct s xs v with
     | none=>simp [Qn]
     | some u =>
       have hr:=A3f s xs ZN v fv h2 t ft h1 u hp;simp only [zUq,z3q,z0q,if_false,hr,E9,F9,D6,Lu,Qn]
   | succ n ih =>
     intro j hj;have h:j<xs.length:=by omega
     have e1:=Hm (k := .i64) h;have il:K6 (.int .i64 xs[j])=true:=rfl;have e4:A8 .add (.int .i64 (j:Int)) (.int .i64 1)=some (.int .i64 ((j+1:Nat):Int)):=N9 (show j<9223372036854775807 by omega)
     have hd:Cu (xs.drop j)=((decide (0<=xs[j]) && decide (xs[j]<=1048576)) && Cu (xs.drop (j+1))):=by
      rw [z2q h];rfl
     rw [hd,YR];simp only [Kv,H7,zAq,h,decide_true,E9,C8,if_true,e1,il,D6,X8,H5,aB,decide_eq_true_eq]
     by_cases a1:xs[j]<0
     ·have a1':¬ (0<=xs[j]):=by omega
      simp [a1,a1']
     ·have a1':0<=xs[j]:=by omega
      by_cases a2:1048576<xs[j]
      ·have a2':¬ (xs[j]<=1048576):=by omega
       simp [a1,a1',a2,a2']
      ·have a2':xs[j]<=1048576:=by omega
       simp only [a1,a1',a2,a2',decide_true,zTq,if_false,e4];exact ih (j+1) (by omega)
  have l0:=loop xs.length 0 (by omega)
  rw [zmq] at l0;have c:((0:Nat):Int)=0:=rfl;rw [c] at l0;have z:¬ ((0:Int)<0):=by omega
  have dz:dLen (J7 [])=some (.int .i64 0):=rfl;simp only [hF,h4,E9,X8,z3q,z0q,if_false,dz,z,decide_false,C8,l0];cases Cu xs <;> simp
 ·have:0<v.free.length:=zuq.2 h4
  simp [hF,h4,this]
end Go.Su

/-
 The calculus: puts; arms of a match: the program's, the document's.
-/
namespace Go.Su
theorem A7m:A0k=FX:=rfl
variable {s:ByteArray} {xs:List Int}
theorem XD {t v:Tm} (hx:Cu xs=true) (ZN:xs.length<=lim) (bt:QB t) (bv:QB v):(run cfg).p Oe [t.enc, .str s,J9 xs,v.enc]=some (Gc t s xs v).enc:=by
 refine (xY _ _ _ _).trans ?_;rw [A1z];simp only [F9,D6,O7,A7Q t v s xs hx ZN (QB.fit v bv) bv.r (QB.fit t bt) bt.r,F8];unfold Gc;cases t.Ct s xs v with
 | none=>simp only [Qn,A7m,BI,BJ,F8,F9,D6,Ap,Int.reduceEq,decide_false,zcq,C8,if_true,JA,SR.Hg]
 | some u=>simp only [Qn,BI,BJ,F8,F9,D6,Ap,decide_true,z3q,C8,z0q,if_false,O7,BM];rfl
theorem Zz {t v:Tm} (hx:Cu xs=true) (ZN:xs.length<=lim) (hn:DW s=true) (bt:QB t) (bv:QT v) (hv:2 * v.N8<=lim):(run cfg).p Sc [t.enc, .str s,J9 xs,v.enc]=some (Gc t s xs v).enc:=by
 refine (A2d _ _ _ _).trans ?_;have hs:=A6S hn;rw [A4r];simp only [F9,D6,O7,A9T t v s xs ZN (QB.fit t bt) (QB.fit v bv.toQB) hv (by omega),F8]
 rw [if_pos ⟨bt.r,bv.r,hn,bv.f,hx⟩];unfold Gc;cases t.Ct s xs v with
 | none=>simp only [Qn,A7m,BI,BJ,F8,F9,D6,Ap,Int.reduceEq,decide_false,zcq,C8,if_true,Ht,K9,rsE,Z8];rfl
 | some u=>simp only [Qn,BI,BJ,F8,F9,D6,Ap,decide_true,z3q,C8,z0q,if_false,O7,BM];rfl
theorem A6Y {Tq:Ty->Prop} {Q:Tm->Prop} (C:CQ2 Tq Q) {B:Nat} {v:Tm} (hq:Q v) (hv:v.J2=true) (bd:Mx B v) (i2:v.inner.kind=6\/v.inner.kind=8) {a b:Tm} (Cy:AA v.chain v.inner = .ok a b):(Q a/\a.J2=true/\Mx B a)/\Q b/\b.J2=true/\Mx B b:=by
 obtain ⟨ch,qi,vi,ki⟩:=C.chain v hq hv;have ri:=C.r _ qi;have il:=Tm.Eh ri (by omega)
 obtain ⟨q0,q1⟩:=C.k2 _ qi i2;have Na:(v.inner.kd 0).J2=true/\(v.inner.kd 1).J2=true:=by
  rw [Tm.Jj,if_neg (by omega),if_pos i2,all2 il,zfq] at vi
  exact vi
 have g0:=JW C.toCQ (i:=0) (fun y=>C.pt y 0 (by omega)) (kind:=if v.inner.kind=8 then 8 else 7) (fun y h k=>Us h (by rw [k];split <;> simp) 0 (by omega)) v.chain ch _ q0 Na.1
 have g1:=JW C.toCQ (i:=1) (fun y=>C.pt y 1 (by omega)) (kind:=if v.inner.kind=8 then 8 else 7) (fun y h k=>Us h (by rw [k];split <;> simp) 1 (by omega)) v.chain ch _ q1 Na.2
 unfold AA at Cy;cases h0:BL (if v.inner.kind=8 then 8 else 7) 0 v.chain (v.inner.kd 0) with
 | fin r=>rw [h0] at Cy;cases Cy
 | ok x =>
   rw [h0] at Cy g0;simp only at Cy;cases h1:BL (if v.inner.kind=8 then 8 else 7) 1 v.chain (v.inner.kd 1) with
   | fin r=>rw [h1] at Cy;cases Cy
   | ok y =>
     rw [h1] at Cy g1;cases Cy;exact ⟨⟨g0.2.1,g0.1,bd.part (Tm.R9 (by omega)) (Tm.AL ri (by omega)) g0.2.2⟩,g1.2.1,g1.1,bd.part (Tm.R9 (by omega)) (Tm.AL ri (by omega)) g1.2.2⟩
theorem D5.A6R {Tq:Ty->Prop} {Q:Tm->Prop} (C:CQ2 Tq Q) {B:Nat} (p:D5):p.pat=true->∀ (v:Tm),Q v->v.J2=true->Mx B v->∀ m,p.meets v = .ok m->∀ c∈m,Mx B c.2/\DW c.1=true:=by
 induction p using D5.ind with
 | h p ih =>
   intro hp v hq hv bd m h;rw [D5.WJ p v (D5.Gb hp)] at h
   by_cases k1:p.kind=1
   ·rw [if_pos k1] at h;cases h;simp
   rw [if_neg k1] at h
   by_cases k2:p.kind=2
   ·rw [if_pos k2] at h;cases h
    have o:p.one=true:=by rw [D5.eT,zfq] at hp;exact hp.1
    unfold D5.one at o;simp [k2] at o;intro c hc;rw [znq.1 hc];exact ⟨bd,o.1.1.1⟩
   rw [if_neg k2] at h
   by_cases hg:v.kind=16/\v.b.kind=5\/v.inner.kind≠p.kind-1
   ·rw [if_pos hg] at h;cases h
   rw [if_neg hg] at h
   by_cases hk:p.kind=7\/p.kind=9
   ·rw [if_pos hk] at h
    have l2:=D5.Gb hp hk;have vk:v.inner.kind=p.kind-1:=Classical.byContradiction fun h=>hg (.inr h)
    cases Pt:AA v.chain v.inner with
    | fin r'=>rw [Pt] at h;cases h
    | ok a b =>
      rw [Pt] at h;have m0:=D5.Iw (show 0<p.kids.length by omega)
      have m1:=D5.Iw (show 1<p.kids.length by omega)
      obtain ⟨⟨a1,a2,a3⟩,b1,b2,b3⟩:=A6Y C hq hv bd (by omega) Pt
      obtain ⟨l,h1,h2⟩:=FR.A5y h;obtain ⟨q,h3,rfl⟩:=FR.A9k h2;intro c hc;rcases zrq.1 hc with hc | hc
      ·exact ih _ m0 (D5.Ej hp m0) a a1 a2 a3 l h1 c hc
      ·exact ih _ m1 (D5.Ej hp m1) b b1 b2 b3 q h3 c hc
   ·rw [if_neg hk] at h
    split at h
    ·cases h
    ·cases h;simp
variable (c:EY)
theorem tcE:DV.agg [A7 1 (AF c),A7 2 (AF c),A7 3 (AF c),A7 4 (AF c),A7 5 (AF c),A7 6 (AF c),A7 7 (AF c),A7 8 (AF c),A7 9 (AF c),A7 10 (AF c),A7 11 (AF c),A7 12 (AF c),A7 13 (AF c),A7 14 (AF c),A7 15 (AF c),A7 16 (AF c),A7 17 (AF c),A7 18 (AF c),A7 19 (AF c),A7 20 (AF c)]=c.2.enc:=O7 c.2
theorem tc0:A7 0 (AF c) = .str c.1:=rfl
variable (l:List EY)
noncomputable def m11 (j:Nat) (x:Tm) (sg:List D8):Option DV:=IJ (run cfg) (.list 21 (l.map AF)) (.int .i64 (l.length:Int)) (.int .i64 (j:Int)) x.enc sg
noncomputable def m10 (j:Nat) (x:Tm) (sg:List D8):Option DV:=IM (run cfg) (.list 21 (l.map AF)) (.int .i64 (j:Int)) x.enc sg
theorem A5R {l:List EY} (hl:l.length<=lim) (hq:∀ c∈l,QT c.2) (sg:List D8):∀ (n j:Nat) (x:Tm),j+n=l.length->QB x->m11 l j x sg=some (PX (l.drop j) x).enc
 | 0,j,x,hj,hx=>by
   unfold m11;rw [Pz];simp only [H7,F8,C8,decide_eq_true_eq];rw [if_neg (by omega),zeq (by omega),PX]
   simp only [O7,BM];rfl
 | n+1,j,x,hj,hx=>by
   have h:j<l.length:=by omega
   have hb:=big hl;have qc:=hq _ (z5q h);have e:m11 l j x sg=(Gc x l[j].1 [] l[j].2).fold (fun y=>m11 l (j+1) y sg) fun r=>some (SR.fin r).enc:=by
    unfold m11;rw [Pz];simp only [H7,F8,C8,decide_eq_true_eq];rw [if_pos (by omega),I8 h]
    simp only [F8,tcE,tc0,O7,show (DV.list 1 [])=J9 [] from rfl,XD (xs:=[]) rfl (by decide) hx qc.toQB,SR.Yh,SR.Yi]
    have ge:=SR.ends.good (TC x l[j].1 [] l[j].2);cases hp:Gc x l[j].1 [] l[j].2 with
    | fin r =>
      rw [hp] at ge;simp only [F9,K9,D6,Hr,F8,C8,z6q,decide_eq_false_iff_not,show J9 []=(DV.list 1 []) from rfl]
      rw [if_pos (show ¬ r.kind=0 from ge)];(try rw [rsE]);(try rw [Z8])
      rfl
    | ok y =>
      simp only [F9,K9,D6,Hr,show (Y6 0).kind=0 from rfl,F8,C8,decide_true,z3q,z0q,if_false,U9]
      rw [U2 (by omega) (by omega)]
      rfl
   rw [e,z2q h,PX];cases hp:Gc x l[j].1 [] l[j].2 with
   | fin r=>rfl
   | ok y =>
     have hy:QB y:=by
      unfold Gc at hp;cases zI:x.Ct l[j].1 [] l[j].2 with
      | none=>rw [zI] at hp;cases hp
      | some z=>rw [zI] at hp;cases hp;exact (zY hx qc zI).1
     exact A5R hl hq sg n (j+1) y (by omega) hy
theorem A5Q {l:List EY} (hl:l.length<=lim) (hq:∀ c∈l,QT c.2/\DW c.1=true/\2 * c.2.N8<=lim) (sg:List D8):∀ (n j:Nat) (x:Tm),j+n=l.length->QB x->m10 l j x sg=some (PX (l.drop j) x).enc
 | 0,j,x,hj,hx=>by
   unfold m10;rw [QF];simp only [K5,z1q,H7,F8,C8,decide_eq_true_eq];rw [if_neg (by omega),zeq (by omega),PX]
   simp only [O7,BM];rfl
 | n+1,j,x,hj,hx=>by
   have h:j<l.length:=by omega
   have hb:=big hl;obtain ⟨qc,nc,mc⟩:=hq _ (z5q h);have e:m10 l j x sg=(Gc x l[j].1 [] l[j].2).fold (fun y=>m10 l (j+1) y sg) fun r=>some (SR.fin r).enc:=by
    unfold m10;rw [QF];simp only [K5,z1q,H7,F8,C8,decide_eq_true_eq];rw [if_pos (by omega),I8 h]
    simp only [F8,tcE,tc0,O7,show (DV.list 1 [])=J9 [] from rfl,Zz (xs:=[]) rfl (by decide) nc hx qc mc,SR.Yh,SR.Yi]
    have ge:=SR.ends.good (TC x l[j].1 [] l[j].2);cases hp:Gc x l[j].1 [] l[j].2 with
    | fin r =>
      rw [hp] at ge;simp only [F9,K9,D6,Hr,F8,C8,z6q,decide_eq_false_iff_not,show J9 []=(DV.list 1 []) from rfl]
      rw [if_pos (show ¬ r.kind=0 from ge)];(try rw [rsE]);(try simp only [O7])
      rfl
    | ok y =>
      simp only [F9,K9,D6,Hr,show (Y6 0).kind=0 from rfl,F8,C8,decide_true,z3q,z0q,if_false,U9]
      rw [U2 (by omega) (by omega)]
      rfl
   rw [e,z2q h,PX];cases hp:Gc x l[j].1 [] l[j].2 with
   | fin r=>rfl
   | ok y =>
     have hy:QB y:=by
      unfold Gc at hp;cases zI:x.Ct l[j].1 [] l[j].2 with
      | none=>rw [zI] at hp;cases hp
      | some z=>rw [zI] at hp;cases hp;exact (zY hx qc zI).1
     exact A5Q hl hq sg n (j+1) y (by omega) hy
end Go.Su

/-
 The calculus: matches: the program's, the document's.
-/
namespace Go.Su
set_option linter.unusedSectionVars false
noncomputable section
def B7r:List (DV × Meta):=(((.list 21 []),Meta.full)::(zz4 []))
variable (sg:List D8)
theorem TB.new:TB (sg++[.box B7r]) sg.length [] (Y6 0):=by
 refine ⟨B7r, ?_,rfl,rfl,rfl⟩;unfold M5;rw [zlq (zoq _),zGq];rfl
variable {cs:List (DV × Meta)}
theorem B4K {r:AC} (h:CV 1 15 cs=some (rcs r)):X5 cs 1=some (.int .i64 r.kind):=by
 rw [CV] at h;cases hc:X5 cs 1 with
 | none=>rw [hc] at h;cases h
 | some d =>
   rw [hc] at h;simp only [F8] at h;cases hs:CV (1+1) 14 cs with
   | none=>rw [hs] at h;cases h
   | some ds =>
     rw [hs] at h;simp only [F8,Option.some.injEq] at h;have:=(List.cons.inj h).1;rw [this];rfl
theorem A5T {i:Nat} {d:DV} (h:FP cs i=some d):X5 cs i=some d:=by
 unfold FP at h;unfold X5
 split at h
 ·rename_i e;rw [e];exact h
 ·rename_i e;rw [e];exact h
 ·cases h
theorem C0J (r:AC):DV.agg (rcs r)=r.enc:=rfl
theorem B2F {t:Tm} {i:Nat} (h:i<t.H6.length):F5 7 (A7 18 t.enc) (.int .i64 (i:Int))=some t.H6[i].enc:=by rw [Tm.A43,I8 h]
variable (t:Tm)
theorem B2E:dLen (A7 18 t.enc)=some (.int .i64 (t.H6.length:Int)):=by rw [Tm.A43,K5,z1q]
variable (i:Nat)
def m2:Option DV:=Ta (run cfg) (A7 18 t.enc) (.int .i64 (t.H6.length:Int)) (.int .i64 (i:Int)) t.enc
def m2b (sg:List D8):Option DV:=LF (run cfg) (A7 18 t.enc) (.int .i64 (t.H6.length:Int)) (.int .i64 (i:Int)) t.enc sg
def c2:Option DV:=Tv (run cfg) (.int .i64 (i:Int)) t.enc
def c2b (sg:List D8):Option DV:=LV (run cfg) (.int .i64 (i:Int)) t.enc sg
theorem B1P (k:Int) (t:Tm):DV.agg ((.int .i64 k)::(uw [.int .i64 0, .bool false,A7 1 t.enc,A7 2 t.enc, .int .i64 0]))=(atR k t.lo t.hi).enc:=by rw [Tm.JX,Tm.El];rfl
section
variable {t:Tm} (ht:QT t) (k:t.kind=14) (hz:t.size<=1200) (hv:(t.kd 0).J2=true)
include ht k hz hv
theorem Sd:QT (t.kd 0)/\Mx 1200 (t.kd 0)/\t.kids.length=t.H6.length+1/\t.H6.length<=1048576/\∀ i (h:i<t.H6.length),t.H6[i].pat=true/\t.H6[i].size<=1048576:=by
 have hl:=Tm.B2w ht.r k;have q0:QT (t.kd 0):=ht.kid (by omega) (Tm.Li (i:=0) (by rw [k];decide)).1
 have z0:=Tm.Dy (Tm.R9 (t:=t) (i:=0) (by omega))
 have ho:=ht.e.one.1;unfold Own at ho;refine ⟨q0,Mx.of q0.r (by omega),hl,by omega,fun i h=>⟨Tm.pV ht.r _ (z5q h), ?_⟩⟩
 have:=Ki (f:=D5.N8) (z5q h);have:=t.H6[i].TE;omega
theorem B1p:∀ (n i:Nat) (sg:List D8),i+n=t.H6.length->m2b t i sg=some (EZ t (t.kd 0) i (t.H6.drop i)).enc
 | 0,i,sg,hi=>by
   have bb:t.H6.length<=1048576:=(Sd ht k hz hv).2.2.2.1;unfold m2b;rw [P_];simp only [H7,F8,C8,decide_eq_true_eq];rw [if_neg (by omega),zeq (by omega),EZ,Z8,B1P]
   rfl
 | n+1,i,sg,hi=>by
   obtain ⟨q0,b0,hl,pl,pp⟩:=Sd ht k hz hv;have h:i<t.H6.length:=by omega
   obtain ⟨p1,p2⟩:=pp i h;have hk:i+1<t.kids.length:=by omega
   unfold m2b;rw [P_];simp only [H7,F8,C8,decide_eq_true_eq];rw [if_pos (by omega),B2F h,x0 (by omega)]
   simp only [F8,O7,A5V];have tb:=TB.new sg;obtain ⟨sg',l',f1,f2,f3⟩:=A2G Sm (B:=1200) (by decide) t.H6[i] p1 (t.kd 0) q0 hv b0 [] _ _ tb (by simp only [z4q];unfold lim;omega)
   obtain ⟨cs,g1,g2,g3,g4⟩:=f2.h;rw [show (run cfg).r BD [(DV.undef,Meta.ptr sg.length 0),(t.H6[i].enc, .val),((t.kd 0).enc, .val)] (sg++[.box (((.list 21 []),Meta.full)::(zz4 []))])=some ([.bool (t.H6[i].meets (t.kd 0)).QK],sg') from f1]
   simp only [F8,show M5 sg' sg.length=some cs from g1,B4K g4,g4,A5T g3,C0J,Ap,C8,M8,zvq,K9,D6,rsE,Z8]
   rw [z2q h,EZ];cases hm:t.H6[i].meets (t.kd 0) with
   | fin r =>
     have ne:=(Ut _ p1 _ r hm).ne0;rw [show ((FR.fin r).res.kind)=r.kind from rfl,if_pos (show (!decide (r.kind=0))=true by simp [ne])]
     rfl
   | no =>
     rw [show (FR.no.res.kind)=0 from rfl]
     simp only [decide_true,z3q,z0q,if_false,show FR.no.QK=false from rfl,zcq,if_true,U9]
     rw [U2 (by omega) (by omega)]
     exact B1p n (i+1) sg' (by omega)
   | ok m =>
     obtain ⟨mo,ml⟩:=(D5.SS Sm _ p1 _ q0 hv).1 m hm;rw [hm] at f3;have e:l'=m:=by simpa [FR.cells] using f3 rfl
     rw [show ((FR.ok m).res.kind)=0 from rfl]
     simp only [decide_true,z3q,z0q,if_false,show (FR.ok m).QK=true from rfl,U9]
     rw [U2 (by omega) (by omega),show ((i:Int)+1)=((i+1:Nat):Int) by omega]
     simp only [F8];rw [xI hk,e];simp only [F8,K5,z1q];exact A5R (by unfold lim;omega) (fun c hc=>(mo c hc).1) sg' m.length 0 _ (by omega) (ht.toQB.kid (Tm.R9 hk))
theorem C0l (h0:0<t.H6.length):m2 t 0=some (EZ t (t.kd 0) 0 t.H6).enc:=by
 have ex:∃ (i:Nat) (sg:List D8) (n:Nat),i=0/\sg=[]/\i+(n+1)=t.H6.length:=⟨0,[],t.H6.length-1,rfl,rfl,by omega⟩
 obtain ⟨i,sg,n,i0,s0,hi⟩:=ex;rw [show m2 t 0=m2 t i by rw [i0],show EZ t (t.kd 0) 0 t.H6=EZ t (t.kd 0) i (t.H6.drop i) by rw [i0,zmq]]
 obtain ⟨q0,b0,hl,pl,pp⟩:=Sd ht k hz hv;have h:i<t.H6.length:=by omega
 obtain ⟨p1,p2⟩:=pp i h;have hk:i+1<t.kids.length:=by omega
 unfold m2;rw [bH];simp only [H7,F8,C8,decide_eq_true_eq];rw [if_pos (by omega),B2F h,x0 (by omega)]
 simp only [F8,O7,A5V];have tb:=TB.new ([]:List D8);obtain ⟨sg',l',f1,f2,f3⟩:=A2G Sm (B:=1200) (by decide) t.H6[i] p1 (t.kd 0) q0 hv b0 [] _ _ tb (by simp only [z4q];unfold lim;omega)
 obtain ⟨cs,g1,g2,g3,g4⟩:=f2.h;rw [show (run cfg).r BD [(DV.undef,Meta.ptr 0 0),(t.H6[i].enc, .val),((t.kd 0).enc, .val)] ([.box (((.list 21 []),Meta.full)::(zz4 []))])=some ([.bool (t.H6[i].meets (t.kd 0)).QK],sg') from f1]
 simp only [F8,show M5 sg' 0=some cs from g1,B4K g4,g4,A5T g3,C0J,Ap,C8,M8,zvq,K9,D6,rsE,Z8]
 rw [z2q h,EZ];cases hm:t.H6[i].meets (t.kd 0) with
 | fin r =>
   have ne:=(Ut _ p1 _ r hm).ne0;rw [show ((FR.fin r).res.kind)=r.kind from rfl,if_pos (show (!decide (r.kind=0))=true by simp [ne])]
   rfl
 | no =>
   rw [show (FR.no.res.kind)=0 from rfl]
   simp only [decide_true,z3q,z0q,if_false,show FR.no.QK=false from rfl,zcq,if_true,U9]
   rw [U2 (by omega) (by omega)]
   exact B1p ht k hz hv n (i+1) sg' (by omega)
 | ok m =>
   obtain ⟨mo,ml⟩:=(D5.SS Sm _ p1 _ q0 hv).1 m hm;rw [hm] at f3;have e:l'=m:=by simpa [FR.cells] using f3 rfl
   rw [show ((FR.ok m).res.kind)=0 from rfl]
   simp only [decide_true,z3q,z0q,if_false,show (FR.ok m).QK=true from rfl,U9]
   rw [U2 (by omega) (by omega),show ((i:Int)+1)=((i+1:Nat):Int) by omega]
   simp only [F8];rw [xI hk,e];simp only [F8,K5,z1q];exact A5R (by unfold lim;omega) (fun c hc=>(mo c hc).1) sg' m.length 0 _ (by omega) (ht.toQB.kid (Tm.R9 hk))
theorem B1c:∀ (n i:Nat) (sg:List D8),i+n=t.H6.length->c2b t i sg=some (EZ t (t.kd 0) i (t.H6.drop i)).enc
 | 0,i,sg,hi=>by
   have bb:t.H6.length<=1048576:=(Sd ht k hz hv).2.2.2.1;unfold c2b;rw [QG];simp only [B2E,H7,F8,C8,decide_eq_true_eq];rw [if_neg (by omega),zeq (by omega),EZ,Z8,B1P]
   rfl
 | n+1,i,sg,hi=>by
   obtain ⟨q0,b0,hl,pl,pp⟩:=Sd ht k hz hv;have h:i<t.H6.length:=by omega
   obtain ⟨p1,p2⟩:=pp i h;have hk:i+1<t.kids.length:=by omega
   unfold c2b;rw [QG];simp only [B2E,H7,F8,C8,decide_eq_true_eq];rw [if_pos (by omega),B2F h,x0 (by omega)]
   simp only [F8,O7,A5V];obtain ⟨X,f1,f2⟩:=A2I Sm (B:=1200) (by decide) t.H6[i] p1 (t.kd 0) q0 hv b0 [] sg (by simp only [z4q];unfold lim;omega)
   rw [show (run cfg).r JC [(t.H6[i].enc, .val),((t.kd 0).enc, .val),(.list 21 [], .own)] sg=_ from f1]
   simp only [F8,BI,BJ,A0t,Hr,C8,M8,K9,D6,rsE,Z8];rw [z2q h,EZ];cases hm:t.H6[i].meets (t.kd 0) with
   | fin r =>
     have ne:=(Ut _ p1 _ r hm).ne0;rw [show ((FR.fin r).res.kind)=r.kind from rfl,if_pos (show (!decide (r.kind=0))=true by simp [ne])]
     rfl
   | no =>
     rw [show (FR.no.res.kind)=0 from rfl]
     simp only [decide_true,z3q,z0q,if_false,show FR.no.QK=false from rfl,zcq,if_true,U9]
     rw [U2 (by omega) (by omega)]
     exact B1c n (i+1) sg (by omega)
   | ok m =>
     obtain ⟨mo,ml⟩:=(D5.SS Sm _ p1 _ q0 hv).1 m hm;have mb:=D5.A6R Sm _ p1 _ q0 hv b0 m hm;rw [hm] at f2;have e:X = .list 21 (m.map AF):=by simpa [FR.cells] using f2 rfl
     rw [show ((FR.ok m).res.kind)=0 from rfl]
     simp only [decide_true,z3q,z0q,if_false,show (FR.ok m).QK=true from rfl,U9]
     rw [U2 (by omega) (by omega),show ((i:Int)+1)=((i+1:Nat):Int) by omega]
     simp only [F8];rw [xI hk,e];simp only [F8];exact A5Q (by unfold lim;omega) (fun c hc=>⟨(mo c hc).1,(mb c hc).2,by have:=(mo c hc).1.toQB.A8k (mb c hc).1;unfold lim;omega⟩) sg m.length 0 _ (by omega) (ht.toQB.kid (Tm.R9 hk))
theorem B9A (h0:0<t.H6.length):c2 t 0=some (EZ t (t.kd 0) 0 t.H6).enc:=by
 have ex:∃ (i:Nat) (sg:List D8) (n:Nat),i=0/\sg=[]/\i+(n+1)=t.H6.length:=⟨0,[],t.H6.length-1,rfl,rfl,by omega⟩
 obtain ⟨i,sg,n,i0,s0,hi⟩:=ex;rw [show c2 t 0=c2 t i by rw [i0],show EZ t (t.kd 0) 0 t.H6=EZ t (t.kd 0) i (t.H6.drop i) by rw [i0,zmq]]
 obtain ⟨q0,b0,hl,pl,pp⟩:=Sd ht k hz hv;have h:i<t.H6.length:=by omega
 obtain ⟨p1,p2⟩:=pp i h;have hk:i+1<t.kids.length:=by omega
 unfold c2;rw [bM];simp only [B2E,H7,F8,C8,decide_eq_true_eq];rw [if_pos (by omega),B2F h,x0 (by omega)]
 simp only [F8,O7,A5V];obtain ⟨X,f1,f2⟩:=A2I Sm (B:=1200) (by decide) t.H6[i] p1 (t.kd 0) q0 hv b0 [] [] (by simp only [z4q];unfold lim;omega)
 rw [show (run cfg).r JC [(t.H6[i].enc, .val),((t.kd 0).enc, .val),(.list 21 [], .own)] []=_ from f1]
 simp only [F8,BI,BJ,A0t,Hr,C8,M8,K9,D6,rsE,Z8];rw [z2q h,EZ];cases hm:t.H6[i].meets (t.kd 0) with
 | fin r =>
   have ne:=(Ut _ p1 _ r hm).ne0;rw [show ((FR.fin r).res.kind)=r.kind from rfl,if_pos (show (!decide (r.kind=0))=true by simp [ne])]
   rfl
 | no =>
   rw [show (FR.no.res.kind)=0 from rfl]
   simp only [decide_true,z3q,z0q,if_false,show FR.no.QK=false from rfl,zcq,if_true,U9]
   rw [U2 (by omega) (by omega)]
   exact B1c ht k hz hv n (i+1) [] (by omega)
 | ok m =>
   obtain ⟨mo,ml⟩:=(D5.SS Sm _ p1 _ q0 hv).1 m hm;have mb:=D5.A6R Sm _ p1 _ q0 hv b0 m hm;rw [hm] at f2;have e:X = .list 21 (m.map AF):=by simpa [FR.cells] using f2 rfl
   rw [show ((FR.ok m).res.kind)=0 from rfl]
   simp only [decide_true,z3q,z0q,if_false,show (FR.ok m).QK=true from rfl,U9]
   rw [U2 (by omega) (by omega),show ((i:Int)+1)=((i+1:Nat):Int) by omega]
   simp only [F8];rw [xI hk,e];simp only [F8];exact A5Q (by unfold lim;omega) (fun c hc=>⟨(mo c hc).1,(mb c hc).2,by have:=(mo c hc).1.toQB.A8k (mb c hc).1;unfold lim;omega⟩) [] m.length 0 _ (by omega) (ht.toQB.kid (Tm.R9 hk))
theorem A7z:(run cfg).p aN [t.enc]=some (EZ t (t.kd 0) 0 t.H6).enc:=by
 have h0:0<t.H6.length:=by
  have o:=Tm.AV ht.r;unfold Tm.one Bn at o;simp [k] at o;exact o.1.1.1.1.1.1
 refine (lX _).trans ?_;rw [rC];simp only [F9,D6,B2E,F8];exact C0l ht k hz hv h0
theorem A7J:(run cfg).p aQ [t.enc]=some (EZ t (t.kd 0) 0 t.H6).enc:=by
 have h0:0<t.H6.length:=by
  have o:=Tm.AV ht.r;unfold Tm.one Bn at o;simp [k] at o;exact o.1.1.1.1.1.1
 refine (l_ _).trans ?_;rw [rW];simp only [F9,D6];exact B9A ht k hz hv h0
end
end
end Go.Su

/-
 The calculus: the other steps at a term's head.
-/
namespace Go.Su
theorem B9v (f w:Tm):DV.agg ((.int .i64 10)::(Nb (Xu (Qs [.list 20 [f.enc,w.enc]]))))=(Tm.mk 10 0 0 O0 O0 0 O0 0 0 false [] BA BA [] [] [f,w]).enc:=by rw [Tm.H8 (Tm.mk ..)];rfl
theorem C3d (f:Tm) (n q:Bool) (a b:Ty) (v:Tm):DV.agg [A7 0 (I4 f n a b v).enc,A7 1 (I4 f n a b v).enc,A7 2 (I4 f n a b v).enc,A7 3 (I4 f n a b v).enc,A7 4 (I4 f n a b v).enc,A7 5 (I4 f n a b v).enc,A7 6 (I4 f n a b v).enc,A7 7 (I4 f n a b v).enc,A7 8 (I4 f n a b v).enc, .bool q,A7 10 (I4 f n a b v).enc,A7 11 (I4 f n a b v).enc,A7 12 (I4 f n a b v).enc,A7 13 (I4 f n a b v).enc,A7 14 (I4 f n a b v).enc,A7 15 (I4 f n a b v).enc,A7 16 (I4 f n a b v).enc,A7 17 (I4 f n a b v).enc,A7 18 (I4 f n a b v).enc,A7 19 (I4 f n a b v).enc]=(I4 f q a b v).enc:=by rw [Tm.H8 (I4 f q a b v),Tm.H8 (I4 f n a b v)];rfl
variable (t:Tm)
theorem B9U (k:Tm):DV.agg ((.int .i64 9)::(.int .i64 0)::(.int .i64 0)::(A7 4 t.enc)::(.str ⟨#[]⟩)::(Xu (A0m ((A7 11 t.enc)::(A7 12 t.enc)::(A7 13 t.enc)::(Kt [.list 3 [], .list 7 [], .list 20 [k.enc]])))))=(Tm.mk 9 0 0 t.arg O0 0 O0 0 0 false [] t.a BA [] [] [k]).enc:=by
 rw [Tm.H8 (Tm.mk ..)];simp only [Tm.KD,Tm.Qm,Tm.A42,Tm.eU];rfl
theorem C0M (k:Tm):DV.agg ((.int .i64 12)::(.int .i64 0)::(.int .i64 0)::(A7 3 t.enc)::(A7 4 t.enc)::(Xu (A0m [A7 11 t.enc,A7 12 t.enc,A7 13 t.enc,A7 14 t.enc,A7 15 t.enc,A7 16 t.enc, .list 3 [], .list 7 [], .list 20 [k.enc,k.enc]])))=(Tm.mk 12 0 0 t.name t.arg 0 O0 0 0 false [] t.a t.b [] [] [k,k]).enc:=by
 rw [Tm.H8 (Tm.mk ..)];simp only [Tm.pj,F6];rfl
variable (k:Int)
theorem zV (n:Int):DV.agg ((.int .i64 k)::(Nb ((.int .i64 n)::(.str ⟨#[]⟩)::(.int .i64 0)::(Qs [.list 20 []]))))=(jZ k n).enc:=by rw [Tm.H8];rfl
theorem B3C:I6 (A7 3 t.enc)=true:=by rw [Tm.CU];rfl
theorem A39:I6 (A7 4 t.enc)=true:=by rw [Tm.KD];rfl
theorem naq:A8 .eql (A7 3 t.enc) (A7 4 t.enc)=some (.bool (decide (t.name=t.arg))):=by rw [Tm.CU,Tm.KD,JJ]
theorem nan:A8 .neq (A7 3 t.enc) (A7 4 t.enc)=some (.bool (!decide (t.name=t.arg))):=by rw [Tm.CU,Tm.KD,wQ]
theorem opq:A8 .eql (A7 7 t.enc) (.int .i64 k)=some (.bool (decide (t.op=k))):=by rw [Tm.Zt,M0]
theorem opg:A8 .geq (A7 7 t.enc) (.int .i64 k)=some (.bool (decide (k<=t.op))):=by rw [Tm.Zt,IR]
variable {t:Tm}
theorem QT.qM (h:QB t):t.vars.length<=lim:=by have:=(QB.fit t h).one.vars;omega
theorem QT.A23 (h:t.right=true) (k:t.kind=9\/t.kind=11\/t.kind=12):DW t.name=true:=by
 have o:=Tm.AV h;unfold Tm.one z8 P9 at o;simp [show t.kind=1\/t.kind=9\/t.kind=11\/t.kind=12 by omega] at o
 exact o.1.1.1.1.2
theorem A8h {f:Tm} (hf:QT f) (k16:f.kind=16) (ka:f.a.kind=9) (kb:f.b.kind=9):f.a.kids.length=2/\f.b.kids.length=2/\f.kids.length=1:=by
 obtain ⟨ra,rb,l0,l1⟩:=Tm.Bd hf.r k16;refine ⟨?_, ?_,Tm.Cr hf.r (.inr k16)⟩
 ·have:=Ty.Cm ra;rw [ka] at this;unfold arity at this;simp at this;omega
 ·have:=Ty.Cm rb;rw [kb] at this;unfold arity at this;simp at this;omega
theorem B0Q {f v:Tm} (hf:QT f) (hv:QT v):(run cfg).p nO [f.enc,v.enc]=some (wJ f v).enc:=by
 refine (xX _ _).trans ?_;rw [A1y];simp only [F9,D6,kq,kn,an,bn,F8,C8,H5,decide_eq_true_eq,z6q,decide_eq_false_iff_not];unfold wJ
 by_cases k9:f.kind=9
 ·have l1:=Tm.Cr hf.r (.inl k9)
  rw [if_pos k9,if_pos k9,x0 (by omega),Tm.CU]
  simp only [F8,O7,show (DV.list 1 [])=J9 [] from rfl,XD (xs:=[]) rfl (by decide) (hf.toQB.kid (Tm.R9 (show 0<f.kids.length by omega))) hv.toQB,SR.Hg]
 rw [if_neg k9,if_neg k9];have st:Nk (run cfg)=some (SR.fin A_).enc:=by
  rw [qz];simp only [JA,F8,SR.Hg]
 by_cases k16:f.kind=16
 ·rw [if_neg (show ¬ ¬ f.kind=16 from fun h=>h k16)]
  by_cases ka:f.a.kind=9
  ·rw [if_neg (show ¬ ¬ f.a.kind=9 from fun h=>h ka)]
   by_cases kb:f.b.kind=9
   ·obtain ⟨la,lb,l1⟩:=A8h hf k16 ka kb
    rw [if_neg (show ¬ ¬ f.b.kind=9 from fun h=>h kb),if_neg (show ¬ (f.kind≠16\/f.a.kind≠9\/f.b.kind≠9) by omega)]
    rw [show O6 .not (A7 9 f.enc)=some (.bool (!f.neg)) by rw [Tm.Ux,M8],bI0 (by omega),aI0 (by omega),x0 (by omega),aI1 (by omega),bI1 (by omega)]
    simp only [F8,O7,Px,zn,F9,D6,B9v,MR,BM];rfl
   ·rw [if_pos kb,if_pos (.inr (.inr kb))];exact st
  ·rw [if_pos ka,if_pos (.inr (.inl ka))];exact st
 ·rw [if_pos k16,if_pos (.inl k16)];exact st
theorem A9W {f v:Tm} (hf:QT f) (hv:QT v) (mv:2 * v.N8<=lim):(run cfg).p iy [f.enc,v.enc]=some (wJ f v).enc:=by
 refine (tV _ _).trans ?_;rw [xH];simp only [F9,D6,kq,kn,an,bn,F8,C8,H5,decide_eq_true_eq,z6q,decide_eq_false_iff_not];unfold wJ
 by_cases k9:f.kind=9
 ·have l1:=Tm.Cr hf.r (.inl k9)
  rw [if_pos k9,if_pos k9,x0 (by omega),Tm.CU]
  simp only [F8,O7,show (DV.list 1 [])=J9 [] from rfl,Zz (xs:=[]) rfl (by decide) (QT.A23 hf.r (.inl k9)) (hf.toQB.kid (Tm.R9 (show 0<f.kids.length by omega))) hv mv,SR.Hg]
 rw [if_neg k9,if_neg k9];have st:(ob ((run cfg).p Y9 []) fun d7=>og (C9 15 d7) <| some (.F3 [FX.enc,DV.agg [A7 0 d7,A7 1 d7,A7 2 d7,A7 3 d7,A7 4 d7,A7 5 d7,A7 6 d7,A7 7 d7,A7 8 d7,A7 9 d7,A7 10 d7,A7 11 d7,A7 12 d7,A7 13 d7,A7 14 d7]]))=some (SR.fin A_).enc:=by
  simp only [Ht,F8,K9,D6,rsE];rfl
 by_cases k16:f.kind=16
 ·rw [if_neg (show ¬ ¬ f.kind=16 from fun h=>h k16)]
  by_cases ka:f.a.kind=9
  ·rw [if_neg (show ¬ ¬ f.a.kind=9 from fun h=>h ka)]
   by_cases kb:f.b.kind=9
   ·obtain ⟨la,lb,l1⟩:=A8h hf k16 ka kb
    rw [if_neg (show ¬ ¬ f.b.kind=9 from fun h=>h kb),if_neg (show ¬ (f.kind≠16\/f.a.kind≠9\/f.b.kind≠9) by omega)]
    rw [bI0 (by omega),aI0 (by omega)]
    simp only [F8,O7,Px,Qq,F9,D6];rw [show O6 .not (A7 9 f.enc)=some (.bool (!f.neg)) by rw [Tm.Ux,M8],x0 (by omega),aI1 (by omega),bI1 (by omega)]
    simp only [F8,O7,Px,A2v,D6,C3d,B9v,Qq,F9,BM];rfl
   ·rw [if_pos kb,if_pos (.inr (.inr kb)),Z8];exact st
  ·rw [if_pos ka,if_pos (.inr (.inl ka)),Z8];exact st
 ·rw [if_pos k16,if_pos (.inl k16),Z8];exact st
theorem C0L {k:Tm} (ht:QT t) (kk:t.kind=12) (hk:FZ t=k) {b0 b1 b2 b3 b4 b5 b6 b7 b8 b9 b10 b11 b12 b13 b14 b15 b16 b17 b18 b19:DV} (h:DV.agg [b0,b1,b2,b3,b4,b5,b6,b7,b8,b9,b10,b11,b12,b13,b14,b15,b16,b17,b18,b19]=k.enc):Td (run cfg) t.enc b0 b1 b2 b3 b4 b5 b6 b7 b8 b9 b10 b11 b12 b13 b14 b15 b16 b17 b18 b19=some (Gc (t.kd 1) t.name t.vars (DJ t)).enc:=by
 have l2:=Tm.Eh ht.r (by omega)
 have e:Tm.mk 9 0 0 t.arg O0 0 O0 0 0 false [] t.a BA [] [] [k]=DJ t:=by rw [<- hk];rfl
 rw [rE];simp only [A39,D6,h,B9U,e];rw [x1 (by omega),Tm.CU,Tm.OU]
 simp only [F8,O7,XD (Tm.PZ ht.r) (QT.qM ht.toQB) (ht.toQB.kid (Tm.R9 (show 1<t.kids.length by omega))) (ht.DJ kk).toQB,SR.Hg]
theorem B0R (ht:QT t) (k:t.kind=12):(run cfg).p nP [t.enc]=some (Gc (t.kd 1) t.name t.vars (DJ t)).enc:=by
 have l2:=Tm.Eh ht.r (by omega)
 refine (xZ _).trans ?_;rw [A1A];simp only [F9,D6,nan,B3C,A39,F8,C8,z6q,decide_eq_false_iff_not];rw [x0 (by omega)]
 simp only [F8,O7]
 by_cases e:t.name=t.arg
 ·rw [if_neg (fun h=>h e)]
  exact C0L ht k (by unfold FZ;rw [if_pos e]) (O7 _)
 ·rw [if_pos e]
  exact C0L ht k (by unfold FZ;rw [if_neg e]) (C0M t (t.kd 0))
theorem r19 {k:Tm} (ht:QT t) (kk:t.kind=12) (hz:t.size<=1200) (hk:FZ t=k) {b0 b1 b2 b3 b4 b5 b6 b7 b8 b9 b10 b11 b12 b13 b14 b15 b16 b17 b18 b19:DV} (h:DV.agg [b0,b1,b2,b3,b4,b5,b6,b7,b8,b9,b10,b11,b12,b13,b14,b15,b16,b17,b18,b19]=k.enc):RQ (run cfg) t.enc b0 b1 b2 b3 b4 b5 b6 b7 b8 b9 b10 b11 b12 b13 b14 b15 b16 b17 b18 b19=some (Gc (t.kd 1) t.name t.vars (DJ t)).enc:=by
 have l2:=Tm.Eh ht.r (by omega)
 have e:Tm.mk 9 0 0 t.arg O0 0 O0 0 0 false [] t.a BA [] [] [k]=DJ t:=by rw [<- hk];rfl
 rw [lL];simp only [A39,D6,h,B9U,e];rw [x1 (by omega),Tm.CU,Tm.OU]
 simp only [F8,O7,Zz (Tm.PZ ht.r) (QT.qM ht.toQB) (QT.A23 ht.r (.inr (.inr kk))) (ht.toQB.kid (Tm.R9 (show 1<t.kids.length by omega))) (ht.DJ kk) (ht.B0G kk hz),SR.Hg]
theorem Tm.B4A (h:t.right=true) (k:t.kind=15):1<=t.op/\t.op<=7:=by
 have o:=Tm.AV h;unfold Tm.one Tm.Kj Tm.Lm Tm.Lp at o;simp [k,Ah] at o;omega
theorem A7A (b:Bool):(run cfg).p KG [.bool b]=some (jZ 3 (if b=true then 1 else 0)).enc:=by
 refine (lh _).trans ?_;rw [rG,zV,zV];cases b <;> rfl
theorem C2C (x y:Int):A8 .quo (.int .i64 x) (.int .i64 y)=if y=0 then none else some (.int .i64 (IntKind.i64.wrap (x.tdiv y))):=rfl
theorem A5l {a b:Tm} (rt:t.right=true) (k:t.kind=15):(run cfg).p VR [t.enc,a.enc,b.enc]=some (opF t a b).enc:=by
 have rg:=Tm.B4A rt k;have o4:∀ w:Int,(if t.op=7 then 4 else 2)=w->LG (run cfg) (.int .i64 w) t.enc a.enc b.enc=some (opF t a b).enc:=by
  intro w hw;have tr:∀ b:Bool,(ob ((run cfg).p KG [.bool b]) fun d=>og (C9 20 d) <| some (.F3 [DV.agg [A7 0 d,A7 1 d,A7 2 d,A7 3 d,A7 4 d,A7 5 d,A7 6 d,A7 7 d,A7 8 d,A7 9 d,A7 10 d,A7 11 d,A7 12 d,A7 13 d,A7 14 d,A7 15 d,A7 16 d,A7 17 d,A7 18 d,A7 19 d],(Y6 0).enc]))=some (SR.ok (jZ 3 (if b=true then 1 else 0))).enc:=by
   intro b;simp only [A7A,F8,F9,D6,O7];rfl
  unfold opF;rw [hw,Yt];simp only [kn,opq,F8,C8,H5,z6q,decide_eq_false_iff_not,decide_eq_true_eq,JA,SR.Hg,Z8,BM]
  by_cases ha:a.kind=w
  ·rw [if_neg (show ¬ ¬ a.kind=w from fun h=>h ha)]
   by_cases hb:b.kind=w
   ·rw [if_neg (show ¬ ¬ b.kind=w from fun h=>h hb),if_neg (show ¬ (a.kind≠w\/b.kind≠w) by omega)]
    unfold A0G
    by_cases c1:t.op=1
    ·rw [if_pos c1,if_neg (show ¬ t.op=7 by omega),if_pos c1,Tm.Bf,Tm.Bf,U9]
     simp only [F8,AJ,D6,zV];rw [if_neg (show ¬ 5<=t.op by omega)];rfl
    rw [if_neg c1,if_neg c1]
    by_cases c2:t.op=2
    ·rw [if_pos c2,if_neg (show ¬ t.op=7 by omega),if_pos c2,Tm.Bf,Tm.Bf,IU]
     simp only [F8,AJ,D6,zV];rw [if_neg (show ¬ 5<=t.op by omega)];rfl
    rw [if_neg c2,if_neg c2]
    by_cases c3:t.op=3
    ·rw [if_pos c3,if_neg (show ¬ t.op=7 by omega),if_pos c3,Tm.Bf,Tm.Bf,A8p]
     simp only [F8,AJ,D6,zV];rw [if_neg (show ¬ 5<=t.op by omega)];rfl
    rw [if_neg c3,if_neg c3]
    by_cases c4:t.op=4
    ·rw [if_pos c4,if_neg (show ¬ t.op=7 by omega),if_pos c4,Tm.Bf,Tm.Bf,M0]
     simp only [F8,C8,decide_eq_true_eq,C2C]
     by_cases z:b.n=0
     ·rw [if_pos z,if_pos z,B1P];rfl
     ·rw [if_neg z,if_neg z,if_neg z]
      simp only [F8,AJ,D6,zV];rw [if_neg (show ¬ 5<=t.op by omega)];rfl
    rw [if_neg c4,if_neg c4]
    by_cases c5:t.op=5
    ·rw [if_pos c5,if_neg (show ¬ t.op=7 by omega),if_pos c5,Tm.Bf,Tm.Bf,H7]
     simp only [F8,tr,decide_eq_true_eq];rw [if_pos (show 5<=t.op by omega)]
    rw [if_neg c5,if_neg c5]
    by_cases c6:t.op=6
    ·rw [if_pos c6,if_neg (show ¬ t.op=7 by omega),Tm.Bf,Tm.Bf,M0]
     simp only [F8,tr,decide_eq_true_eq];rw [if_pos (show 5<=t.op by omega)]
    rw [if_neg c6,if_pos (show t.op=7 by omega),Tm.Hd,Tm.Hd,JJ]
    simp only [F8,tr,decide_eq_true_eq]
   ·rw [if_pos hb,if_pos (.inr hb)]
  ·rw [if_pos ha,if_pos (.inl ha)]
 refine (bX _ _ _).trans ?_;rw [gG];simp only [F9,D6,opq,F8,C8,decide_eq_true_eq]
 by_cases h7:t.op=7
 ·rw [if_pos h7];exact o4 4 (by rw [if_pos h7])
 ·rw [if_neg h7];exact o4 2 (by rw [if_neg h7])
theorem A7N (b:Bool):(run cfg).p MW [.bool b]=some (.int .i64 (if b=true then 1 else 0)):=by
 refine (YU _).trans ?_;rw [bQ];cases b <;> rfl
theorem A58 {a b:Tm} (rt:t.right=true) (k:t.kind=15):(run cfg).p Xy [t.enc,a.enc,b.enc]=some (opF t a b).enc:=by
 have rg:=Tm.B4A rt k;have o9:∀ w:Int,(if 5<=t.op then 3 else 2)=w->NE (run cfg) t.enc a.enc b.enc (.int .i64 w)=some (if t.op=7 then SR.ok (jZ 3 (if a.s=b.s then 1 else 0)) else match A0G t.op a.n b.n with | some n => .ok (jZ (if 5<=t.op then 3 else 2) n) | none => .fin (atR 3 t.lo t.hi)).enc:=by
  intro w hw;rw [bP,Tm.Zt,Tm.Bf,Tm.Bf,B4U];simp only [F8,Z8,BM,B1P];have e7:t.op=7->opN t.op a.n b.n=some (if a.n=b.n then 1 else 0):=fun h=>by unfold opN;rw [h];rfl
  rw [show A0G t.op a.n b.n=opN t.op a.n b.n from rfl]
  cases ho:opN t.op a.n b.n with
  | none =>
    have h7:¬ t.op=7:=fun h=>by rw [e7 h] at ho;cases ho
    simp only [BI,BJ,F8,M8,C8,zcq,if_true];rw [if_neg h7];rfl
  | some n =>
    simp only [BI,BJ,F8,M8,C8,z3q,z0q,if_false,AJ,D6,M0,decide_eq_true_eq]
    by_cases h7:t.op=7
    ·have w3:w=3:=by rw [<- hw,if_pos (by omega)]
     rw [if_pos h7,if_pos h7,Tm.Hd,Tm.Hd,JJ];simp only [F8,A7N,AJ,D6,zV,decide_eq_true_eq,w3];rfl
    ·rw [if_neg h7,if_neg h7,zV,hw]
     rfl
 have o4:∀ w:Int,(if t.op=7 then 4 else 2)=w->ND (run cfg) (.int .i64 w) t.enc a.enc b.enc=some (opF t a b).enc:=by
  intro w hw;have st:(ob ((run cfg).p Y9 []) fun d7=>og (C9 15 d7) <| some (.F3 [FX.enc,DV.agg [A7 0 d7,A7 1 d7,A7 2 d7,A7 3 d7,A7 4 d7,A7 5 d7,A7 6 d7,A7 7 d7,A7 8 d7,A7 9 d7,A7 10 d7,A7 11 d7,A7 12 d7,A7 13 d7,A7 14 d7]]))=some (SR.fin A_).enc:=by
   simp only [Ht,F8,K9,D6,rsE];rfl
  unfold opF;rw [hw,bO];simp only [kn,opg,F8,C8,H5,z6q,decide_eq_false_iff_not,decide_eq_true_eq,Z8]
  by_cases ha:a.kind=w
  ·rw [if_neg (show ¬ ¬ a.kind=w from fun h=>h ha)]
   by_cases hb:b.kind=w
   ·rw [if_neg (show ¬ ¬ b.kind=w from fun h=>h hb),if_neg (show ¬ (a.kind≠w\/b.kind≠w) by omega)]
    by_cases h5:5<=t.op
    ·rw [if_pos h5];exact o9 3 (by rw [if_pos h5])
    ·rw [if_neg h5];exact o9 2 (by rw [if_neg h5])
   ·rw [if_pos hb,if_pos (.inr hb)];exact st
  ·rw [if_pos ha,if_pos (.inl ha)];exact st
 refine (gm _ _ _).trans ?_;rw [lK];simp only [F9,D6,opq,F8,C8,decide_eq_true_eq]
 by_cases h7:t.op=7
 ·rw [if_pos h7];exact o4 4 (by rw [if_pos h7])
 ·rw [if_neg h7];exact o4 2 (by rw [if_neg h7])
end Go.Su

/-
 The calculus: a step: the program's, the document's.
-/
namespace Go.Su
set_option linter.unusedSectionVars false
theorem QT.B1m {t:Tm} (h:QB t):t.kids.length<=lim:=by have:=(QB.fit t h).one.kids;omega
variable (t:Tm)
theorem C3c:A8 .eql (A7 5 t.enc) (.int .i64 1)=some (.bool (decide (t.n=1))):=by rw [Tm.Bf,M0]
section
variable {t:Tm} (ht:QT t) (hz:t.size<=1200) (hv:∀ i,i<Y8 t.kind->(t.kd i).J2=true)
include ht hz hv
theorem B29:step2 (Y8 t.kind) (Y8 t.kind) t=some (Re t).enc:=by
 have hm:=Tm.Jk ht.r;have d_:∀ i,i<Y8 t.kind->QT (t.kd i):=fun i hi=>ht.kid (by omega) (Tm.Li hi).1
 have rk:=Tm.je ht.r;unfold step2 Re;rw [JM];simp only [H7,F8,C8,decide_eq_true_eq,kq,O7];rw [if_neg (by omega)]
 by_cases k10:t.kind=10
 ·rw [k10] at d_
  have l2:=Tm.Eh ht.r (by omega)
  rw [if_pos k10,if_pos k10,x0 (by omega),x1 (by omega)]
  simp only [F8,O7,B0Q (d_ 0 (by decide)) (d_ 1 (by decide)),SR.Hg]
 rw [if_neg k10,if_neg k10]
 by_cases k11:t.kind=11
 ·rw [k11] at d_
  have l2:=Tm.Eh ht.r (by omega)
  rw [if_pos k11,if_pos k11,x0 (by omega),x1 (by omega),Tm.CU,Tm.OU]
  simp only [F8,O7,XD (Tm.PZ ht.r) (QT.qM ht.toQB) (ht.toQB.kid (Tm.R9 (show 1<t.kids.length by omega))) (d_ 0 (by decide)).toQB,SR.Hg]
 rw [if_neg k11,if_neg k11]
 by_cases k12:t.kind=12
 ·rw [if_pos k12,if_pos k12]
  simp only [B0R ht k12,F8,SR.Hg]
 rw [if_neg k12,if_neg k12]
 by_cases k13:t.kind=13
 ·have l3:=Tm.A84 ht.r k13
  rw [if_pos k13,if_pos k13,x0 (by omega)]
  simp only [F8,kn,C3c,C8,z6q,decide_eq_false_iff_not,decide_eq_true_eq,JA,SR.Hg]
  by_cases c3:(t.kd 0).kind=3
  ·rw [if_neg (show ¬ ¬ (t.kd 0).kind=3 from fun h=>h c3),if_neg (show ¬ (t.kd 0).kind≠3 from fun h=>h c3),x1 (by omega),x2 (by omega)]
   simp only [F8,O7,BM]
   by_cases n1:(t.kd 0).n=1
   ·rw [if_pos n1,if_pos n1];rfl
   ·rw [if_neg n1,if_neg n1];rfl
  ·rw [if_pos c3,if_pos c3]
 rw [if_neg k13,if_neg k13]
 by_cases k15:t.kind=15
 ·have l2:=Tm.Eh ht.r (by omega)
  rw [if_pos k15,if_pos k15,x0 (by omega),x1 (by omega)]
  simp only [F8,O7,A5l ht.r k15,SR.Hg]
 rw [if_neg k15,if_neg k15]
 by_cases k14:t.kind=14
 ·rw [if_pos k14,if_pos k14]
  simp only [A7z ht k14 hz (hv 0 (by rw [k14];decide)),F8,SR.Hg]
 rw [if_neg k14,if_neg k14]
 by_cases k16:t.kind=16
 ·rw [k16] at d_
  have l1:=Tm.Cr ht.r (.inr k16);rw [if_pos k16,if_pos k16,x0 (by omega)]
  simp only [F8,O7,ug ht.r k16 (d_ 0 (by decide)).r,SR.Hg]
 rw [if_neg k16,if_neg k16];simp only [JA,F8,SR.Hg]
theorem B2V:(run cfg).p EU [t.enc]=some (Re t).enc:=by
 have hm:=Tm.Jk ht.r;have d_:∀ i,i<Y8 t.kind->QT (t.kd i):=fun i hi=>ht.kid (by omega) (Tm.Li hi).1
 have km:∀ i,i<Y8 t.kind->2 * (t.kd i).N8<=lim:=fun i hi=>by
  have m:=Tm.R9 (t:=t) (i:=i) (by omega)
  have:=(ht.toQB.kid m).N8 (by have:=Tm.Dy m;omega)
  unfold lim;omega
 have rk:=Tm.je ht.r;have nd:Lc (Y8 t.kind) t.kids=none:=by
  unfold Lc;refine zSq.2 fun i hi => ?_
  have:=hv i (zQq.1 hi);unfold Tm.kd at this;rw [this]
  decide
 have st:(ob ((run cfg).p Y9 []) fun d7=>og (C9 15 d7) <| some (.F3 [FX.enc,DV.agg [A7 0 d7,A7 1 d7,A7 2 d7,A7 3 d7,A7 4 d7,A7 5 d7,A7 6 d7,A7 7 d7,A7 8 d7,A7 9 d7,A7 10 d7,A7 11 d7,A7 12 d7,A7 13 d7,A7 14 d7]]))=some (SR.fin A_).enc:=by
  simp only [Ht,F8,K9,D6,rsE];rfl
 refine (UY _).trans ?_;rw [Ws];simp only [F9,D6,O7,qC ht.r,F8];unfold A5D Re;rw [nd];simp only [IR,F8,C8,decide_eq_true_eq,kq];rw [if_neg (by decide)]
 by_cases k10:t.kind=10
 ·rw [k10] at d_ km
  have l2:=Tm.Eh ht.r (by omega)
  rw [if_pos k10,if_pos k10,x0 (by omega),x1 (by omega)]
  simp only [F8,O7,A9W (d_ 0 (by decide)) (d_ 1 (by decide)) (km 1 (by decide)),SR.Hg]
 rw [if_neg k10,if_neg k10]
 by_cases k11:t.kind=11
 ·rw [k11] at d_ km
  have l2:=Tm.Eh ht.r (by omega)
  rw [if_pos k11,if_pos k11,x0 (by omega),x1 (by omega),Tm.CU,Tm.OU]
  simp only [F8,O7,Zz (Tm.PZ ht.r) (QT.qM ht.toQB) (QT.A23 ht.r (.inr (.inl k11))) (ht.toQB.kid (Tm.R9 (show 1<t.kids.length by omega))) (d_ 0 (by decide)) (km 0 (by decide)),SR.Hg]
 rw [if_neg k11,if_neg k11,Vw];simp only [kq,F8,C8,decide_eq_true_eq]
 by_cases k12:t.kind=12
 ·have l2:=Tm.Eh ht.r (by omega)
  rw [if_pos k12,if_pos k12,x0 (by omega)]
  simp only [F8,B3C,A39,D6,naq,C8,decide_eq_true_eq,O7]
  by_cases e:t.name=t.arg
  ·rw [if_pos e]
   exact r19 ht k12 hz (by unfold FZ;rw [if_pos e]) (O7 _)
  ·rw [if_neg e]
   exact r19 ht k12 hz (by unfold FZ;rw [if_neg e]) (C0M t (t.kd 0))
 rw [if_neg k12,if_neg k12]
 by_cases k13:t.kind=13
 ·have l3:=Tm.A84 ht.r k13
  rw [if_pos k13,if_pos k13,x0 (by omega)]
  simp only [F8,kq,C8,decide_eq_true_eq]
  by_cases c3:(t.kd 0).kind=3
  ·rw [if_pos c3,if_neg (show ¬ (t.kd 0).kind≠3 from fun h=>h c3),Tm.Bf,IU]
   have nr:(t.kd 0).n=0\/(t.kd 0).n=1:=by
    have o:=Tm.AV (Tm.AL ht.r (show 0<t.kids.length by omega))
    unfold Tm.one Tm.Kj at o;simp [c3] at o;exact o.2.1.2
   rcases nr with n0 | n1
   ·rw [n0,U2 (by omega) (by omega)]
    simp only [F8];rw [show F5 20 (A7 19 t.enc) (.int .i64 (2-0))=some (t.kd 2).enc from x2 (by omega),if_neg (by decide)]
    simp only [F8,O7,BM];rfl
   ·rw [n1,U2 (by omega) (by omega)]
    simp only [F8];rw [show F5 20 (A7 19 t.enc) (.int .i64 (2-1))=some (t.kd 1).enc from x1 (by omega),if_pos trivial]
    simp only [F8,O7,BM];rfl
  ·rw [if_neg c3,if_pos c3,Z8];exact st
 rw [if_neg k13,if_neg k13]
 by_cases k15:t.kind=15
 ·have l2:=Tm.Eh ht.r (by omega)
  rw [if_pos k15,if_pos k15,x0 (by omega),x1 (by omega)]
  simp only [F8,O7,A58 ht.r k15,SR.Hg]
 rw [if_neg k15,if_neg k15]
 by_cases k14:t.kind=14
 ·rw [if_pos k14,if_pos k14]
  simp only [O7,A7J ht k14 hz (hv 0 (by rw [k14];decide)),F8,SR.Hg]
 rw [if_neg k14,if_neg k14]
 by_cases k16:t.kind=16
 ·rw [k16] at d_
  have l1:=Tm.Cr ht.r (.inr k16);rw [if_pos k16,if_pos k16,x0 (by omega)]
  simp only [F8,O7,ul ht.r k16 (d_ 0 (by decide)).r,SR.Hg]
 rw [if_neg k16,if_neg k16,Z8];exact st
end
theorem A5s {t:Tm} {i:Nat} (rt:t.right=true) (hd:Lc (Y8 t.kind) t.kids=some i):t.Bv=(t.kd i).Bv.bind fun x => .ok (t.Y7 i x):=by
 obtain ⟨h1,h2⟩:=kZ hd;have hl:=Tm.Jk rt;rw [Tm.fH,hd];have e:(t.kids.map Tm.Bv).getD i (.fin A_)=(t.kd i).Bv:=by
  rw [zsq,zzq,Tm.TA (by omega)];rfl
 simp only [e]
theorem zq:QT t->t.size<=1200->(run cfg).p Bz [t.enc]=some t.Bv.enc:=by
 induction t using Tm.ind with
 | h t ih =>
   intro ht hz;have hm:=Tm.Jk ht.r;have m2:=B1q t.kind;have st:(run cfg).p Bz [t.enc]=step2 (Y8 t.kind) 0 t:=by
    rw [RY,UD];simp only [F9,D6];rw [Tm.Y3,fC];simp only [F8];rfl
   have kid:∀ i,i<Y8 t.kind->(t.kd i).J2=false->step2 (Y8 t.kind) i t=some ((t.kd i).Bv.bind fun x => .ok (t.Y7 i x)).enc:=fun i hi hv=>by
    have m:=Tm.R9 (t:=t) (i:=i) (by omega)
    have qk:=ht.kid (i:=i) (by omega) (Tm.Li hi).1
    exact A7c (by omega) hi (QT.B1m ht.toQB) qk.r hv (VF _ qk.r).good (ih _ m qk (by have:=Tm.Dy m;omega))
   have nxt:∀ i,i<Y8 t.kind->(t.kd i).J2=true->step2 (Y8 t.kind) i t=step2 (Y8 t.kind) (i+1) t:=fun i hi hv=>A7d (by omega) hi (by omega) (Tm.AL ht.r (by omega)) hv
   have val:∀ i,(t.kids.getD i FX)=t.kd i:=fun i=>rfl
   rw [st];cases hd:Lc (Y8 t.kind) t.kids with
   | none =>
     have hv:=wT hd;simp only [val] at hv;have e:t.Bv=Re t:=by rw [Tm.fH,hd]
     rw [e,<- B29 ht hz hv];have h:Y8 t.kind=0\/Y8 t.kind=1\/Y8 t.kind=2:=by omega
     rcases h with h | h | h
     ·rw [h]
     ·have:=nxt 0 (by omega) (hv 0 (by omega))
      rw [h] at this ⊢;exact this
     ·have a:=nxt 0 (by omega) (hv 0 (by omega))
      have b:=nxt 1 (by omega) (hv 1 (by omega))
      rw [h] at a b ⊢;exact a.trans b
   | some i =>
     obtain ⟨h1,h2⟩:=kZ hd;rw [val] at h2;rw [A5s ht.r hd,<- kid i h1 h2];have h:i=0\/i=1:=by omega
     rcases h with rfl | rfl
     ·rfl
     ·refine nxt 0 (by omega) ?_
      have hm2:Y8 t.kind=2:=by omega
      rw [hm2,B68] at hd;cases hv:(t.kd 0).J2
      ·rw [hv] at hd;simp at hd
      ·rfl
theorem B03:QT t->t.size<=1200->(run cfg).p EU [t.enc]=some t.Bv.enc:=by
 induction t using Tm.ind with
 | h t ih =>
   intro ht hz;have hm:=Tm.Jk ht.r;cases hd:Lc (Y8 t.kind) t.kids with
   | none =>
     have e:t.Bv=Re t:=by rw [Tm.fH,hd]
     rw [e];exact B2V ht hz (wT hd)
   | some i =>
     obtain ⟨h1,h2⟩:=kZ hd;have m:=Tm.R9 (t:=t) (i:=i) (by omega)
     have qk:=ht.kid (i:=i) (by omega) (Tm.Li h1).1
     rw [A5s ht.r hd];exact A66 ht.r hd (by omega) (QT.B1m ht.toQB) (VF _ qk.r).good (ih _ m qk (by have:=Tm.Dy m;omega))
end Go.Su

/-
 The calculus: what is closed; what is small; the runs that the statements go along with.
-/
namespace Go.Su
theorem A3k (l:List ByteArray):dLen (J7 l)=some (.int .i64 (l.length:Int)):=by unfold J7;rw [K5,z1q]
theorem len_nil {α : Type} (l:List α):decide ((l.length:Int)=0)=decide (l=[]):=by
 rw [decide_eq_decide];constructor
 ·intro h;exact zgq (by omega)
 ·intro h;rw [h];rfl
variable {t:Tm}
theorem A53 (ft:t.fit) (hm:2 * t.N8<=lim):(run cfg).p Ip [t.enc]=some (.bool (decide (t.right=true/\t.free=[]))):=by
 refine (gU _).trans ?_;rw [kv];simp only [F9,D6,O7,A7P t ft,F8,M0,H5,decide_eq_true_eq]
 by_cases rt:t.right=true
 ·rw [if_pos rt,if_pos rfl,A91 t ft hm,if_pos rt]
  simp only [F8,A3k,M0,len_nil];simp [rt]
 ·rw [if_neg rt,if_neg (by decide)]
  simp [rt]
theorem QT.closed (ht:QT t) (hz:t.size<=1200):(run cfg).p Ip [t.enc]=some (.bool true):=by
 rw [A53 (QB.fit t ht.toQB) (by have:=ht.toQB.N8 hz;unfold lim;omega)]
 simp [ht.r,ht.f]
theorem A7y (ht:QT t) (hz:t.size<=1200):(run cfg).p Nf [t.enc]=some (.bool t.J2):=by
 refine (lU _).trans ?_;rw [qw];simp only [F9,D6,O7,ht.closed hz,F8,H5,if_true,Bp t ht.r]
theorem A9K (ht:QT t) (hz:t.size<=1200) (hv:t.J2=false):(run cfg).p QM [t.enc]=some t.Bv.enc:=by
 refine (sQ _).trans ?_;rw [wW];simp only [F9,D6,O7,ht.closed hz,F8,M8,C8,z3q,z0q,if_false,Bp t ht.r,hv,zq t ht hz,SR.Hg]
def CTR (M U a s m:Nat):Prop:=a+s<=M/\m=a+s\/M<a+s/\M<m/\m<=U
theorem nz {α : Type} {M U:Nat} (f : α -> Nat) (hf:∀ x,0<f x) (l:List α) (P:Nat->Nat->Option DV) (fin:Nat->Option DV) (stop:∀ i a,i<=l.length->(i=l.length\/M<a)->P i a=fin a) (step:∀ i (h:i<l.length) a,i<=a->a<=M->∃ m:Nat,CTR M U a (f l[i]) m/\P i a=P (i+1) m):∀ (k i a:Nat),i+k=l.length->i<=a->a<=M->∃ m:Nat,P i a=fin m/\CTR M U a ((l.drop i).map f).sum m:=by
 intro k
 induction k with
 | zero =>
   intro i a hi ha hm;refine ⟨a,stop i a (by omega) (.inl (by omega)), .inl ?_⟩
   rw [zeq (by omega)]
   simp only [zyq,zEq];omega
 | succ k ih =>
   intro i a hi ha hm;have h:i<l.length:=by omega
   obtain ⟨m,hc,e⟩:=step i h a ha hm;have p:=hf l[i];rw [e,z2q h,zLq,zWq];rcases hc with ⟨c1,c2⟩ | ⟨c1,c2,c3⟩
   ·obtain ⟨m',e1,e3⟩:=ih (i+1) m (by omega) (by omega) (by omega)
    refine ⟨m',e1, ?_⟩;rcases e3 with ⟨g1,g2⟩ | ⟨g1,g2,g3⟩
    ·exact .inl ⟨by omega,by omega⟩
    ·exact .inr ⟨by omega,g2,g3⟩
   ·exact ⟨m,stop _ _ (by omega) (.inr c2), .inr ⟨by omega,c2,c3⟩⟩
variable {n:Nat}
theorem add1 (h:n<9223372036854775807):A8 .add (.int .i64 (n:Int)) (.int .i64 1)=some (.int .i64 ((n+1:Nat):Int)):=by
 rw [U9,U2 (by omega) (by omega)]
 rfl
theorem B1f {M a s r m:Nat} {P:Option DV} (hM:0<M) (ha:a<=M) (hz:s=1+r) (h0:M<a+1->P=some (.int .i64 ((a+1:Nat):Int))) (h1:a+1<=M->∃ m:Nat,P=some (.int .i64 (m:Int))/\CTR M (M+1) (a+1) r m) :
 ∃ m:Nat,P=some (.int .i64 (m:Int))/\CTR M (M+1) a s m:=by
 by_cases h:a+1<=M
 ·obtain ⟨m,e,c⟩:=h1 h
  refine ⟨m,e, ?_⟩;rcases c with ⟨c1,c2⟩ | ⟨c1,c2,c3⟩
  ·exact .inl ⟨by omega,by omega⟩
  ·exact .inr ⟨by omega,c2,c3⟩
 ·exact ⟨a+1,h0 (by omega), .inr ⟨by omega,by omega,by omega⟩⟩
theorem fD (t:Ty):∀ a:Nat,a<=20000->∃ m:Nat,(run cfg).p DL [t.enc, .int .i64 (a:Int)]=some (.int .i64 (m:Int))/\CTR 20000 20001 a t.size m:=by
 induction t using Ty.ind with
 | h t ih =>
   intro a ha;rw [QJ,Rv];simp only [R5,D6,add1 (show a<9223372036854775807 by omega),F8]
   refine B1f (r:=(t.kids.map Ty.size).sum) (m:=0) (by omega) ha t.size_eq (fun h => ?_) (fun h => ?_)
   ·rw [FJ,Ty.El]
    simp only [K5,z1q,H7,Ao,F8,H5,C8,decide_eq_true_eq];rw [if_neg (show ¬ ((a+1:Nat):Int)<=20000 by omega),ite_self]
   ·have lp:=nz (M:=20000) (U:=20001) Ty.size Ty.Dz t.kids (fun i a=>Ck (run cfg) (.int .i64 (a:Int)) (.int .i64 (i:Int)) t.enc) (fun m=>some (.int .i64 (m:Int)))
          (fun i a hi h=>by
            show Ck (run cfg) (.int .i64 (a:Int)) (.int .i64 (i:Int)) t.enc=_
            rw [FJ,Ty.El];simp only [K5,z1q,H7,Ao,F8,H5,C8,decide_eq_true_eq];rcases h with h | h
            ·rw [if_neg (by omega)]
            ·by_cases hl:i<t.kids.length
             ·rw [if_pos (by omega),if_neg (by omega)]
             ·rw [if_neg (by omega)])
          (fun i h a hi hM=>by
            obtain ⟨m,g1,g2⟩:=ih _ (z5q h) a hM;refine ⟨m,g2, ?_⟩
            show Ck (run cfg) (.int .i64 (a:Int)) (.int .i64 (i:Int)) t.enc=Ck (run cfg) (.int .i64 (m:Int)) (.int .i64 ((i+1:Nat):Int)) t.enc
            rw [FJ,Ty.El];simp only [K5,z1q,H7,Ao,F8,H5,C8,decide_eq_true_eq];rw [if_pos (by omega),if_pos (by omega),I8 h]
            simp only [F8,Px,g1,add1 (show i<9223372036854775807 by omega)])
            t.kids.length 0 (a+1) (by omega) (by omega) h
    rw [zmq] at lp;exact lp
theorem A7B (t:Ty):(run cfg).p DL [t.enc, .int .i64 20001]=some (.int .i64 20002):=by
 rw [QJ,Rv];simp only [R5,D6,U9,F8];rw [U2 (by omega) (by omega),FJ,Ty.El]
 simp only [K5,H7,Ao,F8,H5,C8,decide_eq_true_eq];rw [if_neg (show ¬ (20001+1:Int)<=20000 by omega),ite_self]
 rfl
variable (t:Tm)
theorem A9M:∀ a:Nat,a<=1200->∃ m:Nat,(run cfg).p JB [t.enc, .int .i64 (a:Int)]=some (.int .i64 (m:Int))/\CTR 1200 1201 a t.size m:=by
 induction t using Tm.ind with
 | h t ih =>
   intro a ha;rw [ZF,bN];simp only [F9,D6,add1 (show a<9223372036854775807 by omega),F8]
   refine B1f (r:=(t.kids.map Tm.size).sum) (m:=0) (by omega) ha t.size_eq (fun h => ?_) (fun h => ?_)
   ·rw [Ih,Tm.Cs]
    simp only [K5,z1q,H7,Ao,F8,H5,C8,decide_eq_true_eq];rw [if_neg (show ¬ ((a+1:Nat):Int)<=1200 by omega),ite_self]
   ·have lp:=nz (M:=1200) (U:=1201) Tm.size Tm.Dz t.kids (fun i a=>Cj (run cfg) (.int .i64 (a:Int)) (.int .i64 (i:Int)) t.enc) (fun m=>some (.int .i64 (m:Int)))
          (fun i a hi h=>by
            show Cj (run cfg) (.int .i64 (a:Int)) (.int .i64 (i:Int)) t.enc=_
            rw [Ih,Tm.Cs];simp only [K5,z1q,H7,Ao,F8,H5,C8,decide_eq_true_eq];rcases h with h | h
            ·rw [if_neg (by omega)]
            ·by_cases hl:i<t.kids.length
             ·rw [if_pos (by omega),if_neg (by omega)]
             ·rw [if_neg (by omega)])
          (fun i h a hi hM=>by
            obtain ⟨m,g1,g2⟩:=ih _ (z5q h) a hM;refine ⟨m,g2, ?_⟩
            show Cj (run cfg) (.int .i64 (a:Int)) (.int .i64 (i:Int)) t.enc=Cj (run cfg) (.int .i64 (m:Int)) (.int .i64 ((i+1:Nat):Int)) t.enc
            rw [Ih,Tm.Cs];simp only [K5,z1q,H7,Ao,F8,H5,C8,decide_eq_true_eq];rw [if_pos (by omega),if_pos (by omega),I8 h]
            simp only [F8,O7,g1,add1 (show i<9223372036854775807 by omega)])
            t.kids.length 0 (a+1) (by omega) (by omega) h
    rw [zmq] at lp;exact lp
theorem Tm.B8Z:0<t.VQ:=by have:=t.B0d;have:=t.a.Dz;omega
theorem A7C:∀ a:Nat,a<=20000->∃ m:Nat,(run cfg).p II [t.enc, .int .i64 (a:Int)]=some (.int .i64 (m:Int))/\CTR 20000 20002 a t.VQ m:=by
 induction t using Tm.ind with
 | h t ih =>
   intro a ha;have z:=t.B0d;have pa:=t.a.Dz;have pb:=t.b.Dz;have B7z:∀ m:Nat,20000<m->Z5 (run cfg) (.int .i64 (m:Int)) (.int .i64 0) t.enc=some (.int .i64 (m:Int)):=by
    intro m hm;rw [G_,Tm.Cs];simp only [K5,z1q,H7,Ao,F8,H5,C8,decide_eq_true_eq];rw [if_neg (show ¬ (m:Int)<=20000 by omega)]
    simp only [ite_self]
   have B7y:∀ m:Nat,20000<m->Af (run cfg) (.int .i64 (m:Int)) (.int .i64 0) t.enc=some (.int .i64 (m:Int)):=by
    intro m hm;rw [Gz,Tm.Ib];simp only [K5,z1q,H7,Ao,F8,H5,C8,decide_eq_true_eq,B7z m hm];rw [if_neg (show ¬ (m:Int)<=20000 by omega)]
    simp only [ite_self]
   rw [Xb,ZA];simp only [F9,D6,nK,tmB];obtain ⟨m1,a1,c1⟩:=fD t.a a ha;rw [a1];simp only [F8];rcases c1 with ⟨c1,c2⟩ | ⟨c1,c2,c3⟩
   ·obtain ⟨m2,b1,d1⟩:=fD t.b m1 (by omega)
    rw [b1];simp only [F8];rcases d1 with ⟨d1,d2⟩ | ⟨d1,d2,d3⟩
    ·have lp:=nz (M:=20000) (U:=20001) Ty.size Ty.Dz t.args (fun i a=>Af (run cfg) (.int .i64 (a:Int)) (.int .i64 (i:Int)) t.enc) (fun m=>Z5 (run cfg) (.int .i64 (m:Int)) (.int .i64 0) t.enc)
      (fun i a hi h=>by
        show Af (run cfg) (.int .i64 (a:Int)) (.int .i64 (i:Int)) t.enc=_
        rw [Gz,Tm.Ib];simp only [K5,z1q,H7,Ao,F8,H5,C8,decide_eq_true_eq];rcases h with h | h
        ·rw [if_neg (by omega)]
        ·by_cases hl:i<t.args.length
         ·rw [if_pos (by omega),if_neg (by omega)]
         ·rw [if_neg (by omega)])
      (fun i h a hi hM=>by
        obtain ⟨m,g1,g2⟩:=fD t.args[i] a hM;refine ⟨m,g2, ?_⟩
        show Af (run cfg) (.int .i64 (a:Int)) (.int .i64 (i:Int)) t.enc=Af (run cfg) (.int .i64 (m:Int)) (.int .i64 ((i+1:Nat):Int)) t.enc
        rw [Gz,Tm.Ib];simp only [K5,z1q,H7,Ao,F8,H5,C8,decide_eq_true_eq];rw [if_pos (by omega),if_pos (by omega),I8 h]
        simp only [F8,Px,g1,add1 (show i<9223372036854775807 by omega)])
         t.args.length 0 m2 (by omega) (by omega) (by omega)
     obtain ⟨m3,e1,f1⟩:=lp;rw [zmq] at f1;have e1:Af (run cfg) (.int .i64 (m2:Int)) (.int .i64 0) t.enc=_:=e1;rw [e1];rcases f1 with ⟨f1,f2⟩ | ⟨f1,f2,f3⟩
     ·have lp:=nz (M:=20000) (U:=20002) Tm.VQ Tm.B8Z t.kids (fun i a=>Z5 (run cfg) (.int .i64 (a:Int)) (.int .i64 (i:Int)) t.enc) (fun m=>some (.int .i64 (m:Int)))
       (fun i a hi h=>by
         show Z5 (run cfg) (.int .i64 (a:Int)) (.int .i64 (i:Int)) t.enc=_
         rw [G_,Tm.Cs];simp only [K5,z1q,H7,Ao,F8,H5,C8,decide_eq_true_eq];rcases h with h | h
         ·rw [if_neg (by omega)]
         ·by_cases hl:i<t.kids.length
          ·rw [if_pos (by omega),if_neg (by omega)]
          ·rw [if_neg (by omega)])
       (fun i h a hi hM=>by
         obtain ⟨m,g1,g2⟩:=ih _ (z5q h) a hM;refine ⟨m,g2, ?_⟩
         show Z5 (run cfg) (.int .i64 (a:Int)) (.int .i64 (i:Int)) t.enc=Z5 (run cfg) (.int .i64 (m:Int)) (.int .i64 ((i+1:Nat):Int)) t.enc
         rw [G_,Tm.Cs];simp only [K5,z1q,H7,Ao,F8,H5,C8,decide_eq_true_eq];rw [if_pos (by omega),if_pos (by omega),I8 h]
         simp only [F8,O7,g1,add1 (show i<9223372036854775807 by omega)])
          t.kids.length 0 m3 (by omega) (by omega) (by omega)
      obtain ⟨m4,g1,h1⟩:=lp;rw [zmq] at h1;refine ⟨m4,g1, ?_⟩;rcases h1 with ⟨h1,h2⟩ | ⟨h1,h2,h3⟩
      ·exact .inl ⟨by omega,by omega⟩
      ·exact .inr ⟨by omega,h2,h3⟩
     ·exact ⟨m3,B7z m3 f2, .inr ⟨by omega,f2,by omega⟩⟩
    ·exact ⟨m2,B7y m2 d2, .inr ⟨by omega,d2,by omega⟩⟩
   ·have e:m1=20001:=by omega
    have s1:(run cfg).p DL [t.b.enc, .int .i64 ((20001:Nat):Int)]=some (.int .i64 20002):=A7B t.b;rw [e,s1];simp only [F8];exact ⟨20002,B7y 20002 (by omega), .inr ⟨by omega,by omega,by omega⟩⟩
theorem A3h:(run cfg).p We [t.enc]=some (.bool (decide (t.size<=1200/\t.VQ<=20000))):=by
 obtain ⟨m,a1,a2⟩:=A9M t 0 (by omega)
 obtain ⟨n,b1,b2⟩:=A7C t 0 (by omega)
 refine (tY _).trans ?_;rw [xK];have a1:(run cfg).p JB [t.enc, .int .i64 0]=some (.int .i64 (m:Int)):=a1;have b1:(run cfg).p II [t.enc, .int .i64 0]=some (.int .i64 (n:Int)):=b1;simp only [F9,D6,O7,a1,b1,F8,Ao,H5,decide_eq_true_eq];have e1:((m:Int)<=1200) ↔ t.size<=1200:=by rcases a2 with ⟨h1,h2⟩ | ⟨h1,h2,h3⟩ <;> omega
 have e2:((n:Int)<=20000) ↔ t.VQ<=20000:=by rcases b2 with ⟨h1,h2⟩ | ⟨h1,h2,h3⟩ <;> omega
 by_cases h:t.size<=1200
 ·rw [if_pos (e1.2 h)]
  simp only [e2,h,true_and]
 ·rw [if_neg (fun g=>h (e1.1 g))]
  simp only [h,false_and,decide_false]
def Tm.small:Prop:=t.size<=1200/\t.VQ<=20000
noncomputable instance (t:Tm):Decidable t.small:=Classical.propDecidable _
noncomputable def Z_:Nat->Tm->Bool
 | 0,_=>true
 | n+1,t=>if t.J2=true then true else match t.Bv with | .fin _=>true | .ok x=>if x.small then Z_ n x else false
structure Tx (n:Nat) (t:Tm):Prop where
 q:QT t
 z:t.size<=1200
 f:Z_ n t=true
theorem Tx.step {t x:Tm} (h:Tx (n+1) t) (hv:t.J2=false) (hs:t.Bv = .ok x):Tx n x:=by
 have hf:=h.f;rw [Z_,if_neg (by rw [hv];simp),hs] at hf
 simp only at hf
 by_cases sm:x.small
 ·rw [if_pos sm] at hf
  exact ⟨(A7f t h.q x hs).qt sm.2,sm.1,hf⟩
 ·rw [if_neg sm] at hf
  cases hf
theorem Tx.less {t:Tm}:∀ {m:Nat},m<=n->Tx n t->Tx m t:=by
 induction n generalizing t with
 | zero=>intro m hm h;rw [show m=0 by omega];exact h
 | succ n ih =>
   intro m hm h;cases m with
   | zero=>exact ⟨h.q,h.z,rfl⟩
   | succ m =>
     refine ⟨h.q,h.z, ?_⟩;rw [Z_];cases hv:t.J2 with
     | true=>rfl
     | false =>
       simp only [z0q,if_false];cases hs:t.Bv with
       | fin r=>rfl
       | ok x =>
         have hx:=h.step hv hs;have sm:x.small:=by
          have hf:=h.f;rw [Z_,if_neg (by rw [hv];simp),hs] at hf
          simp only at hf
          by_cases sm:x.small
          ·exact sm
          ·rw [if_neg sm] at hf;cases hf
         simp only;rw [if_pos sm];exact (ih (by omega) hx).f
theorem C18 (F:Nat) (hF:F<4294967296):∀ (k i:Nat) (t:Tm),i+k=F->QT t->t.size<=1200->Jy (run cfg) (.int .i64 (F:Int)) (.int .i64 (i:Int)) t.enc=some (.bool (Z_ k t)):=by
 intro k
 induction k with
 | zero =>
   intro i t hi ht hz;rw [OA];simp only [H7,F8,H5,decide_eq_true_eq];rw [if_neg (by omega)]
   rfl
 | succ k ih =>
   intro i t hi ht hz;rw [OA,Z_];simp only [H7,F8,H5,C8,decide_eq_true_eq,O7,Pg t ht.r,M8];rw [if_pos (by omega)]
   cases hv:t.J2 with
   | true=>rfl
   | false =>
     simp only [zcq,if_true,z0q,if_false,B03 t ht hz,F8,SR.Yh,SR.Yi];cases hs:t.Bv with
     | fin r =>
       have ne:=(VF t ht.r r hs).ne0;simp only [F9,K9,D6,Hr,F8,C8,z6q,decide_eq_false_iff_not];rw [if_pos ne]
     | ok x =>
       have kx:=A7f t ht x hs;simp only [F9,K9,D6,Hr,show (Y6 0).kind=0 from rfl,F8,C8,decide_true,z3q,z0q,if_false,O7,A3h,M8,z6q,decide_eq_false_iff_not,add1 (show i<9223372036854775807 by omega)]
       by_cases sm:x.small
       ·rw [if_neg (show ¬ ¬ (x.size<=1200/\x.VQ<=20000) from fun h=>h sm),if_pos sm]
        exact ih (i+1) x (by omega) (kx.qt sm.2) sm.1
       ·rw [if_pos (show ¬ (x.size<=1200/\x.VQ<=20000) from sm),if_neg sm]
theorem B0P {t:Tm} (hm:t.N8<=1048576) (rt:t.right=true) (cl:t.free=[]) {F:Nat} (hF:F<4294967296):∃ b:Bool,(run cfg).p VT [t.enc, .int .i64 (F:Int)]=some (.bool b)/\(b=true->Tx F t):=by
 have ft:t.fit:=Tm.bW (by omega)
 by_cases sm:t.size<=1200/\t.VQ<=20000
 ·have q:QT t:=QO.qt ⟨rt,Own.N8 t hm,cl⟩ sm.2
  refine ⟨Z_ F t,(SF _ _).trans ?_,fun h=>⟨q,sm.1,h⟩⟩
  rw [UR];simp only [F9,D6,O7,A3h,F8,M8,C8,H5,z6q,decide_eq_false_iff_not,VD t ft,rt,Bool.true_eq_false,if_false,jg t ft rt (by unfold lim;omega),cl,A3k,z4q,X8,decide_eq_true_eq]
  rw [if_neg (fun h=>h sm),if_neg (by decide)]
  exact C18 F hF F 0 t (by omega) q sm.1
 ·refine ⟨false,(SF _ _).trans ?_,fun h=>by cases h⟩
  rw [UR];simp only [F9,D6,O7,A3h,F8,M8,C8,H5,z6q,decide_eq_false_iff_not];rw [if_pos sm]
end Go.Su

/-
 The calculus: values are read.
-/
namespace Go.Su
structure Grown (sg:List D8) (i k:Nat) (cs:List (DV × Meta)) (l:List DV) (sg':List D8):Prop where
 box:M5 sg' i=some (cs.set k (.list 9 l, .own))
 keep:∀ j,j≠i->j<sg.length->sg'[j]?=sg[j]?
theorem B7N {l m:List DV} (h:l.length+m.length<=lim) (h0:0<m.length):Jz 9 (.list 9 l) (.list 9 m)=some (l,m):=by
 unfold Jz;simp only;rw [if_pos ⟨⟨trivial,trivial⟩,h,h0⟩]
variable {sg:List D8} {i:Nat} {cs:List (DV × Meta)}
theorem B9V {k:Nat} {l:List DV} (hb:M5 sg i=some cs) (hk:k<cs.length) (z x:DV) :
 GU ((sg.set i (D8.box (cs.set k (.list 9 l, .val))))++[D8.opn 9 l [z]]) ((sg.set i (D8.box (cs.set k (.list 9 l, .val))))).length=some (9,l,[z])/\Iz (9,l,[z]) l.length x=some (.opn 9 l [x]) /\
 M5 (((sg.set i (D8.box (cs.set k (.list 9 l, .val))))++[D8.opn 9 l [z]]).set ((sg.set i (D8.box (cs.set k (.list 9 l, .val))))).length (.opn 9 l [x])) i=some (cs.set k (.list 9 l, .val)):=by
 have hi:=WR hb;refine ⟨?_, ?_, ?_⟩
 ·unfold GU
  rw [zlq (zoq _),zGq];rfl
 ·unfold Iz
  simp only [zGq,z8q,z4q];rw [if_pos ⟨zoq _,by omega⟩]
  rfl
 ·rw [VB (by simp;omega)]
  unfold M5;rw [zHq (by simpa using hi),zbq hi]
theorem B9W {k:Nat} {l m:List DV} (hb:M5 sg i=some cs) (hk:k<cs.length) (o:D8) (hm:0<m.length) (n:Nat) (hn:n=l.length+m.length) :
 M5 ((((sg.set i (D8.box (cs.set k (.list 9 l, .val))))++[o]).set ((sg.set i (D8.box (cs.set k (.list 9 l, .val))))).length (.opn 9 l m)).set i (D8.box ((cs.set k (.list 9 l, .val)).set k (.undef, .arr ((sg.set i (D8.box (cs.set k (.list 9 l, .val))))).length 9 0 n)))) i=some ((cs.set k (.list 9 l, .val)).set k (.undef, .arr ((sg.set i (D8.box (cs.set k (.list 9 l, .val))))).length 9 0 n)) /\
 Sj ((cs.set k (.list 9 l, .val)).set k (.undef, .arr ((sg.set i (D8.box (cs.set k (.list 9 l, .val))))).length 9 0 n)) k=some (((sg.set i (D8.box (cs.set k (.list 9 l, .val))))).length,9,n) /\
 GU ((((sg.set i (D8.box (cs.set k (.list 9 l, .val))))++[o]).set ((sg.set i (D8.box (cs.set k (.list 9 l, .val))))).length (.opn 9 l m)).set i (D8.box ((cs.set k (.list 9 l, .val)).set k (.undef, .arr ((sg.set i (D8.box (cs.set k (.list 9 l, .val))))).length 9 0 n)))) ((sg.set i (D8.box (cs.set k (.list 9 l, .val))))).length=some (9,l,m) /\
 FQ (9,l,m) 9 n=some (.list 9 (l++m)) /\
 Grown sg i k cs (l++m) ((((((sg.set i (D8.box (cs.set k (.list 9 l, .val))))++[o]).set ((sg.set i (D8.box (cs.set k (.list 9 l, .val))))).length (.opn 9 l m)).set i (D8.box ((cs.set k (.list 9 l, .val)).set k (.undef, .arr ((sg.set i (D8.box (cs.set k (.list 9 l, .val))))).length 9 0 n)))).set i (D8.box (((cs.set k (.list 9 l, .val)).set k (.undef, .arr ((sg.set i (D8.box (cs.set k (.list 9 l, .val))))).length 9 0 n)).set k (.list 9 (l++m), .own)))).set ((sg.set i (D8.box (cs.set k (.list 9 l, .val))))).length (.arr 1 [])):=by
 have hi:=WR hb;have hl:((sg.set i (D8.box (cs.set k (.list 9 l, .val))))).length=sg.length:=by simp
 rw [hl];refine ⟨?_, ?_, ?_, ?_, ?_,fun j hj M4 => ?_⟩
 ·exact TD (by simp;omega) _
 ·unfold Sj
  rw [zbq (by simpa using hk)]
  rfl
 ·unfold GU
  rw [z7q (by omega),zbq (by simp)]
 ·unfold FQ
  rw [if_pos ⟨rfl,hn.symm,by omega⟩]
 ·rw [VB (by omega),zKq,TD (by simp;omega),zKq,zKq]
 ·rw [z7q (by omega),z7q (Ne.symm hj),z7q (Ne.symm hj),z7q (by omega),zHq (by simpa using M4),z7q (Ne.symm hj)]
variable {n:Nat}
theorem A9A {j:Nat} (h:i≠j) (o:D8):Dt (sg.set i o) j n=Dt sg j n:=by
 unfold Dt;rw [z7q h]
theorem A9y {x:Nat × List DV} (h:Dt sg i n=some x):i<sg.length:=by
 unfold Dt at h;cases hi:sg[i]? with
 | none=>rw [hi] at h;cases h
 | some o=>exact (List.getElem?_eq_some_iff.1 hi).1
theorem zi (h:i<sg.length) (n sz:Nat) (ds:List DV):Dt (sg.set i (.U1 n sz ds)) i n=some (sz,ds):=by
 unfold Dt;rw [zbq h];simp
theorem B1O (h:0<n):Am 0 n (.int .i64 ((n:Int)-1))=some (n-1):=by
 unfold Am;simp only;rw [if_pos ⟨by omega,by omega⟩,zpq]
 congr 1
 omega
theorem C04 (h:n<9223372036854775807):A8 .sub (.int .i64 (n:Int)) (.int .i64 1)=some (.int .i64 ((n:Int)-1)):=by rw [IU,U2 (by omega) (by omega)]
theorem B4o (k n:Int) (s:ByteArray):DV.agg ((.int .i64 k)::(.int .i64 n)::(.str s)::(zz9 []))=(Val.mk k n s Dj []).enc:=by rw [Val.H8];rfl
theorem B41 (v:Val) (n:Int):DV.agg [.int .i64 1,A7 0 v.enc,A7 1 v.enc,A7 2 v.enc,A7 3 v.enc,A7 4 v.enc,A7 5 v.enc,A7 6 v.enc,A7 7 v.enc,A7 8 v.enc, .int .i64 0, .bool false, .int .i64 0, .int .i64 0, .int .i64 n]=(AC.mk 1 v 0 false 0 0 n).enc:=by rw [Val.H8];rfl
theorem A9L:∀ (n:Nat) (l:List Val) (k:Nat),l.length<=n->n<=100000->listing (k+1) l->(∀ v∈l,v.c=Dj/\v.kids=[]) ->
 (run cfg).p QN [.list 9 (l.map Val.enc)]=some (.F3 [(FI n l).1.enc, .list 9 ((FI n l).2.map Val.enc)])/\(∀ v∈(FI n l).2,v∈l):=by
 intro n
 induction n with
 | zero =>
   intro l k hl _ h;have:l=[]:=zgq (by omega)
   subst this;cases h
 | succ n ih =>
   intro l k hl hn h hb;cases l with
   | nil=>cases h
   | cons v l =>
     simp only [z8q] at hl;rw [listing] at h;obtain ⟨vc,vk⟩:=hb v (ziq ..);have Ef:∀ w∈l,w.c=Dj/\w.kids=[]:=fun w hw=>hb w (zaq _ hw)
     have d0:F5 9 (.list 9 ((v::l).map Val.enc)) (.int .i64 0)=some v.enc:=rfl;have ds:CP 9 (.list 9 ((v::l).map Val.enc)) (some (.int .i64 1)) none=some (.list 9 (l.map Val.enc)):=by
      simp [CP,bnd,zxq]
     rw [FI]
     by_cases hk:v.kind=5\/v.kind=7
     ·rw [if_pos hk]
      rw [Val.ar,if_pos hk] at h;obtain ⟨a1,a2⟩:=ih l (k+1) (by omega) (by omega) h Ef
      obtain ⟨b1,b2⟩:=B6T n l (k+1) (by omega) h
      obtain ⟨c1,c2⟩:=ih _ k (by omega) (by omega) b1 fun w hw=>Ef w (a2 w hw)
      refine ⟨?_,fun w hw=>zaq _ (a2 w (c2 w hw))⟩
      refine (YT _).trans ?_;rw [bI];simp only [d0,ds,F8,Val.Y3,M0,H5,C8,decide_eq_true_eq];have four:∀ (b:List DV) ,Qw (run cfg) (.list 9 (l.map Val.enc)) v.enc=some (.F3 [(Val.mk v.kind v.n v.s v.c [(FI n l).1,(FI n (FI n l).2).1]).enc, .list 9 ((FI n (FI n l).2).2.map Val.enc)]):=by
       intro _;rw [kw];simp only [a1,F8,BI,BJ,A4L,D6,c1,Val.Q9,Val.ag,Val.pj,ag9];rw [Val.H8 (Val.mk _ _ _ _ _)];rfl
      by_cases h5:v.kind=5
      ·rw [if_pos h5];exact four []
      ·rw [if_neg h5,if_pos (by omega)];exact four []
     ·rw [if_neg hk]
      refine ⟨?_,fun w hw=>zaq _ hw⟩
      refine (YT _).trans ?_;rw [bI];simp only [d0,ds,F8,Val.Y3,M0,H5,C8,decide_eq_true_eq];rw [if_neg (by omega),if_neg (by omega)]
      simp only [Val.Q9,Val.ag,Val.pj,ag9]
theorem C0Y (a b:Tm):IC 20 0 FX.enc [(A7 0 (two a b), .val),(A7 1 (two a b), .val),(A7 2 (two a b), .val),(A7 3 (two a b), .val),(A7 4 (two a b), .val),(A7 5 (two a b), .val),(A7 6 (two a b), .val),(A7 7 (two a b), .val),(A7 8 (two a b), .val),(A7 9 (two a b), .val),(A7 10 (two a b), .val),(A7 11 (two a b), .val),(A7 12 (two a b), .val),(A7 13 (two a b), .val),(A7 14 (two a b), .val),(A7 15 (two a b), .val),(A7 16 (two a b), .val),(A7 17 (two a b), .val),(A7 18 (two a b), .val),(A7 19 (two a b), .val)]=some a.enc:=by
 show IC 20 0 FX.enc [(A7 0 a.enc, .val),(A7 1 a.enc, .val),(A7 2 a.enc, .val),(A7 3 a.enc, .val),(A7 4 a.enc, .val),(A7 5 a.enc, .val),(A7 6 a.enc, .val),(A7 7 a.enc, .val),(A7 8 a.enc, .val),(A7 9 a.enc, .val),(A7 10 a.enc, .val),(A7 11 a.enc, .val),(A7 12 a.enc, .val),(A7 13 a.enc, .val),(A7 14 a.enc, .val),(A7 15 a.enc, .val),(A7 16 a.enc, .val),(A7 17 a.enc, .val),(A7 18 a.enc, .val),(A7 19 a.enc, .val)]=some a.enc
 rw [Tm.H8 a,Tm.H8 FX];rfl
theorem B7D (a b:Tm):IC 20 0 FX.enc [(A7 20 (two a b), .val),(A7 21 (two a b), .val),(A7 22 (two a b), .val),(A7 23 (two a b), .val),(A7 24 (two a b), .val),(A7 25 (two a b), .val),(A7 26 (two a b), .val),(A7 27 (two a b), .val),(A7 28 (two a b), .val),(A7 29 (two a b), .val),(A7 30 (two a b), .val),(A7 31 (two a b), .val),(A7 32 (two a b), .val),(A7 33 (two a b), .val),(A7 34 (two a b), .val),(A7 35 (two a b), .val),(A7 36 (two a b), .val),(A7 37 (two a b), .val),(A7 38 (two a b), .val),(A7 39 (two a b), .val)]=some b.enc:=by
 show IC 20 0 FX.enc [(A7 0 b.enc, .val),(A7 1 b.enc, .val),(A7 2 b.enc, .val),(A7 3 b.enc, .val),(A7 4 b.enc, .val),(A7 5 b.enc, .val),(A7 6 b.enc, .val),(A7 7 b.enc, .val),(A7 8 b.enc, .val),(A7 9 b.enc, .val),(A7 10 b.enc, .val),(A7 11 b.enc, .val),(A7 12 b.enc, .val),(A7 13 b.enc, .val),(A7 14 b.enc, .val),(A7 15 b.enc, .val),(A7 16 b.enc, .val),(A7 17 b.enc, .val),(A7 18 b.enc, .val),(A7 19 b.enc, .val)]=some b.enc
 rw [Tm.H8 b,Tm.H8 FX];rfl
theorem A99 {L:List DV} (hn:L.length=n) (z a b:DV):(L++[z,z])[n]?=some z/\((L++[z,z]).set n b)[n+1]?=some z/\((L++[z,z]).set n b).set (n+1) a=L++[b,a]:=by
 subst hn;refine ⟨?_, ?_, ?_⟩
 ·rw [zlq (zoq _),zGq];rfl
 ·rw [z7q (by omega),zlq (by omega),zIq];rfl
 ·rw [zOq _ _ (zoq _),zGq,zOq _ _ (by omega),zIq];rfl
theorem B5C {l m:List DV} (h:l.length+m.length<=lim) (h0:0<m.length):Jz 20 (.list 20 l) (.list 20 m)=some (l,m):=by
 unfold Jz;simp only;rw [if_pos ⟨⟨trivial,trivial⟩,h,h0⟩]
inductive RdR where
 | fin (r:AC)
 | ok (w:Val) (l:List Tm)
noncomputable def iQ (v:Tm):Val := .mk (v.inner.kind-1) v.inner.n v.inner.s Dj []
noncomputable def NY (v:Tm):RdR :=
 if v.inner.kind=6\/v.inner.kind=8 then (match AA v.chain v.inner with | .fin r => .fin r | .ok a b => .ok (iQ v) [b,a]) else .ok (iQ v) []
structure LR (L:List Tm) (O:List Val) (i k m:Nat) (ds:List DV) (cs:List (DV × Meta)) (sg:List D8):Prop where
 box:M5 sg i=some cs
 len:cs.length=2
 c0:cs[0]?=some (.undef, .U1 k m 20 L.length)
 v:Dt sg k m=some (20,ds)
 d:ds.take L.length=L.map Tm.enc
 o:FP cs 1=some (.list 9 (O.map Val.enc))
 ne:k≠i
variable {L:List Tm} {O:List Val} {ds:List DV}
theorem LR.dl {k m:Nat} (h:LR L O i k m ds cs sg):L.length<=ds.length:=by
 have:=congrArg List.length h.d;simp at this;omega
theorem LR.vin {k m:Nat} (h:LR L O i k m ds cs sg):Rh sg i 0 cs 20=some (sg,k,m,L.length):=by
 unfold Rh;rw [h.c0];rfl
theorem LR.cut {L':List Tm} {k m m':Nat} {ds':List DV} {sg':List D8} (h:LR L O i k m ds cs sg) (hb:M5 sg' i=some cs) (hv:Dt sg' k m'=some (20,ds')) (hd:ds'.take L'.length=L'.map Tm.enc) :
 LR L' O i k m' ds' (cs.set 0 (.undef, .U1 k m' 20 L'.length)) (sg'.set i (.box (cs.set 0 (.undef, .U1 k m' 20 L'.length)))):=by
 have l:=h.len;refine ⟨TD (WR hb) _,by simpa using l,zbq (by omega),by rw [A9A (Ne.symm h.ne)];exact hv,hd, ?_,h.ne⟩
 have:=h.o;unfold FP at this ⊢;rw [z7q (by omega)]
 exact this
theorem B4F {k m:Nat} (h:LR L O i k m ds cs sg) (ho:O.length<100000) (kk n:Int) (s:ByteArray) :
 ∃ sg' cs',Ay (run cfg) i (.int .i64 kk) (.int .i64 n) (.str s) sg=some ([(Y6 0).enc],sg')/\LR L (O++[.mk kk n s Dj []]) i k m ds cs' sg':=by
 have h1:=h.box;have l:=h.len;rw [Po];obtain ⟨g1,g2,g3⟩:=B9V (k:=1) (l:=O.map Val.enc) h1 (by omega) Uu.enc (Val.mk kk n s Dj []).enc
 obtain ⟨g4,g5,g6,g7,g8⟩:=B9W (k:=1) (l:=O.map Val.enc) (m:=[(Val.mk kk n s Dj []).enc]) h1 (by omega) (.opn 9 (O.map Val.enc) [Uu.enc]) (by simp) (O.length+1) (by simp)
 have el:(O.map Val.enc).length=O.length:=by simp
 rw [el] at g2;simp only [h1,F8,h.o,K5,z1q,B4o,B7N (l:=O.map Val.enc) (m:=[Uu.enc]) (by simp [lim];omega) (by simp),show (Val.mk 0 0 ⟨#[]⟩ Dj [])=Uu from rfl,z8q,z4q,zpq,XN (show O.length<O.length+1 by omega),g1,beq_self_eq_true,zXq,D6,g2,g3,g4,g5,g6,g7]
 rw [zhq (by simp only [List.length_set];omega)]
 simp only [F8,g4,g5,g6,g7,BM];refine ⟨_,_,rfl,g8.box,by simpa using l,by rw [z7q (by omega)];exact h.c0, ?_,h.d, ?_,h.ne⟩
 ·have hv:=h.v
  have hk:=A9y hv;have:=g8.keep k h.ne hk;unfold Dt at hv ⊢;rw [this];exact hv
 ·unfold FP
  rw [zbq (by omega)]
  simp
theorem B8V {k m:Nat} {v:Tm} (h:LR (L++[v]) O i k m ds cs sg) (hL:L.length<100000) (hO:O.length<100000) (hq:QT v) (hv:v.J2=true) (hb:Mx 1200 v) :
 ∃ sg',match NY v with
   | .fin r=>(run cfg).r Ig [(.undef, .ptr i 0)] sg=some ([r.enc],sg')
   | .ok w l=>(run cfg).r Ig [(.undef, .ptr i 0)] sg=some ([(Y6 0).enc],sg')/\∃ m' ds' cs',LR (L++l) (O++[w]) i k m' ds' cs' sg':=by
 obtain ⟨ch,qi,vi,ki⟩:=Sm.chain v hq hv;have bl:=hb.l;have ll:(L++[v]).length=L.length+1:=by simp
 have e:=h.d;have dl:=h.dl;have vn:=h.vin;rw [ll] at e dl vn;have top:ds[L.length]?=some v.enc:=by
  have:(ds.take (L.length+1))[L.length]?=some v.enc:=by rw [e];simp
  rw [List.getElem?_take_of_lt (by omega)] at this
  exact this
 have tk:ds.take L.length=L.map Tm.enc:=by
  have:(ds.take (L.length+1)).take L.length=L.map Tm.enc:=by rw [e,zPq,List.take_left' (by simp)]
  rw [List.take_take,Nat.min_eq_left (by omega)] at this
  exact this
 have b1:bnd (L.length+1) (some (.int .i64 (((L.length+1:Nat):Int)-1)))=some L.length:=by
  unfold bnd;simp only;rw [if_pos (by omega)]
  congr 1
  omega
 have cut:=h.cut (L':=L) h.box h.v tk;have vk:v.inner.kind=2\/v.inner.kind=3\/v.inner.kind=4\/v.inner.kind=5\/v.inner.kind=7\/v.inner.kind=9\/v.inner.kind=6\/v.inner.kind=8:=by
  rw [Tm.Jj] at vi
  split at vi
  ·omega
  split at vi
  ·omega
  first | (cases vi;done) | (rw [if_neg ki] at vi;cases vi)
 rw [Sw,UC];simp only [h.box,F8,vn,TH,C04 (show L.length+1<9223372036854775807 by omega),B1O (show 0<L.length+1 by omega),Nat.add_sub_cancel,h.v,top,beq_self_eq_true,D6,O7,uh v hq.r (by unfold lim;omega),BI,BJ,F9,b1]
 rw [if_pos (by omega),h.c0]
 simp only [F8,kq,C8,decide_eq_true_eq];rw [Tm.Bf,Tm.Hd];simp only [AJ,Uo,D6];have note:∀ kk:Int,kk=v.inner.kind-1->∃ sg' cs',Ay (run cfg) i (.int .i64 kk) (.int .i64 v.inner.n) (.str v.inner.s) (sg.set i (D8.box (cs.set 0 (.undef, .U1 k m 20 L.length))))=some ([(Y6 0).enc],sg')/\LR L (O++[iQ v]) i k m ds cs' sg':=by
  intro kk hk;have:=B4F cut hO kk v.inner.n v.inner.s;rw [hk] at this ⊢;exact this
 have leaf:(v.inner.kind=2\/v.inner.kind=3\/v.inner.kind=4\/v.inner.kind=5)->∃ sg',CB (run cfg) i v.inner.enc (.int .i64 v.inner.n) (.str v.inner.s) (sg.set i (D8.box (cs.set 0 (.undef, .U1 k m 20 L.length))))=some ([(Y6 0).enc],sg')/\∃ m' ds' cs',LR (L++[]) (O++[iQ v]) i k m' ds' cs' sg':=by
  intro hk;obtain ⟨sg',cs',n1,n2⟩:=note (v.inner.kind-1) rfl;refine ⟨sg', ?_,m,ds,cs',by rw [zqq];exact n2⟩
  rw [Pn,Tm.Y3,IU,U2 (by omega) (by omega)]
  simp only [F8,U9];rw [U2 (by omega) (by omega),show v.inner.kind-2+1=v.inner.kind-1 by omega]
  simp only [F8,AJ,D6];exact n1
 have nine:∀ kk:Int,kk=v.inner.kind-1->(v.inner.kind=6\/v.inner.kind=8)->∃ sg',match (match AA v.chain v.inner with | .fin r=>RdR.fin r | .ok a b => .ok (iQ v) [b,a]) with
  | .fin r=>EC (run cfg) i (.list 20 (v.chain.map Tm.enc)) v.inner.enc (.int .i64 kk) (.int .i64 v.inner.n) (.str v.inner.s) (sg.set i (D8.box (cs.set 0 (.undef, .U1 k m 20 L.length))))=some ([r.enc],sg')
  | .ok w l=>EC (run cfg) i (.list 20 (v.chain.map Tm.enc)) v.inner.enc (.int .i64 kk) (.int .i64 v.inner.n) (.str v.inner.s) (sg.set i (D8.box (cs.set 0 (.undef, .U1 k m 20 L.length))))=some ([(Y6 0).enc],sg')/\∃ m' ds' cs',LR (L++l) (O++[w]) i k m' ds' cs' sg':=by
  intro kk hk i2;have ri:=qi.r;have il:=Tm.Eh ri (by omega)
  obtain ⟨q0,q1⟩:=Sm.k2 _ qi i2;have Na:(v.inner.kd 0).J2=true/\(v.inner.kd 1).J2=true:=by
   rw [Tm.Jj,if_neg (by omega),if_pos i2,all2 il,zfq] at vi
   exact vi
  obtain ⟨d,e1,e2⟩:=uk Sm.toCQ Sm.pt (L:=v.chain) (by omega) ch il q0 Na.1 q1 Na.2
  have pd:=Wz Sm.toCQ Sm.pt ch q0 Na.1 q1 Na.2;rw [QZ];simp only [O7,e2,F8];cases hp:AA v.chain v.inner with
  | fin r =>
    have ne:=(jd hp).ne0;refine ⟨sg.set i (D8.box (cs.set 0 (.undef, .U1 k m 20 L.length))), ?_⟩;simp only [BI,BJ,F8,e1,K9,D6,Hr,C8,z6q,decide_eq_false_iff_not];rw [if_pos ne];rfl
  | ok a b =>
    have S_:=A9y h.v;have nk:=h.ne;have c1:(ds.take L.length).length=L.length:=by rw [tk];simp
    obtain ⟨t1,t2,t3⟩:=A99 c1 FX.enc b.enc a.enc;obtain ⟨t1',t2',t3'⟩:=A99 c1 FX.enc a.enc b.enc;simp only [BI,BJ,F8,B1G,K9,D6,Hr,show (Y6 0).kind=0 from rfl,C8,decide_true,z3q,z0q,if_false,cut.box,cut.vin,TH,cut.v,beq_self_eq_true,zXq,show L.length<=ds.length by omega,Z8]
    rw [B5C (by rw [c1];simp [lim];omega) (by simp)]
    simp only [F8,c1,z8q,z4q,zpq];rw [XN (show L.length<L.length+(1+1) by omega)]
    have hk2:k<(sg.set i (D8.box (cs.set 0 (DV.undef,Meta.U1 k m 20 L.length)))).length:=by simpa using S_
    simp only [F8,zi hk2,t1',beq_self_eq_true,D6,B7D,C0Y];rw [U9,U2 (by omega) (by omega)]
    simp only [F8];rw [show (L.length:Int)+1=((L.length+1:Nat):Int) by omega,XN (show L.length+1<L.length+(1+1) by omega)]
    simp only [F8,zKq,zi hk2,t2,t3,t2',t3',beq_self_eq_true,D6,B7D,C0Y,VB nk,cut.box,cut.c0];have C2j:=cut.cut (L':=L++[b,a]) (m':=m+1) (ds':=ds.take L.length++[b.enc,a.enc]) (sg':=(sg.set i (D8.box (cs.set 0 (DV.undef,Meta.U1 k m 20 L.length)))).set k (D8.U1 (m+1) 20 (ds.take L.length++[b.enc,a.enc]))) (by rw [VB nk];exact cut.box) (zi hk2 _ _ _) (by
     rw [zxq (by simp [c1]),tk,zPq];rfl)
    obtain ⟨sg',cs',n1,n2⟩:=B4F C2j hO kk v.inner.n v.inner.s;refine ⟨sg', ?_,_,_,cs',by rw [hk] at n2;exact n2⟩
    rw [<- n1];simp only [zdq,z8q,z4q,zpq,zKq]
 unfold NY
 by_cases c2:v.inner.kind=2
 ·rw [if_pos c2,if_neg (show ¬ (v.inner.kind=6\/v.inner.kind=8) by omega)];exact leaf (by omega)
 rw [if_neg c2]
 by_cases c3:v.inner.kind=3
 ·rw [if_pos c3,if_neg (show ¬ (v.inner.kind=6\/v.inner.kind=8) by omega)];exact leaf (by omega)
 rw [if_neg c3]
 by_cases c4:v.inner.kind=4
 ·rw [if_pos c4,if_neg (show ¬ (v.inner.kind=6\/v.inner.kind=8) by omega)];exact leaf (by omega)
 rw [if_neg c4]
 by_cases c5:v.inner.kind=5
 ·rw [if_pos c5,if_neg (show ¬ (v.inner.kind=6\/v.inner.kind=8) by omega)];exact leaf (by omega)
 rw [if_neg c5]
 by_cases c7:v.inner.kind=7
 ·rw [if_pos c7,if_neg (show ¬ (v.inner.kind=6\/v.inner.kind=8) by omega)]
  obtain ⟨sg',cs',n1,n2⟩:=note 6 (by omega)
  exact ⟨sg',n1,m,ds,cs',by rw [zqq];exact n2⟩
 rw [if_neg c7]
 by_cases c9:v.inner.kind=9
 ·rw [if_pos c9,if_neg (show ¬ (v.inner.kind=6\/v.inner.kind=8) by omega)]
  obtain ⟨sg',cs',n1,n2⟩:=note 8 (by omega)
  exact ⟨sg',n1,m,ds,cs',by rw [zqq];exact n2⟩
 rw [if_neg c9]
 by_cases c8:v.inner.kind=8
 ·rw [if_pos c8,if_pos (show v.inner.kind=6\/v.inner.kind=8 from .inr c8)]
  exact nine 7 (by omega) (.inr c8)
 ·rw [if_neg c8,if_pos (show v.inner.kind=6\/v.inner.kind=8 by omega)]
  exact nine 5 (by omega) (by omega)
end Go.Su

/-
 The calculus: runs.
-/
namespace Go.Su
noncomputable section
variable (n:Nat)
def A73 (O:List Val):AC:=⟨1,(FI O.length O).1,0,false,0,0,n⟩
def Rc:AC:=⟨5,Uu,0,false,0,0,n⟩
def AC.at (r:AC) (n:Nat):AC:=⟨r.kind,r.val,r.label,r.neg,r.lo,r.hi,n⟩
def FN:Nat->Nat->List Tm->List Val->AC
 | 0,n,L,O=>if L=[] then A73 n O else Rc n
 | d+1,n,L,O=>if L=[] then A73 n O else match NY (L.getLastD FX) with
   | .fin r=>r.at (n+1)
   | .ok w l=>FN d (n+1) (L.dropLast++l) (O++[w])
def GR:Nat->Nat->Tm->AC
 | 0,n,t=>if t.J2=true then FN 0 n [t] [] else Rc n
 | d+1,n,t=>if t.J2=true then FN (d+1) n [t] [] else match t.Bv with
   | .fin r=>r.at (n+1)
   | .ok x=>GR d (n+1) x
structure Rds (n:Nat) (L:List Tm) (O:List Val):Prop where
 q:∀ v∈L,QT v/\v.J2=true/\Mx 1200 v
 l:L.length<=n+1
 o:O.length<=n
 b:∀ w∈O,w.c=Dj/\w.kids=[]
 s:∀ l,listing L.length l->listing 1 (O++l)
variable {v:Tm} {l:List Tm}
theorem B6v (hq:QT v) (hv:v.J2=true) (hb:Mx 1200 v) {w:Val} (h:NY v = .ok w l):w=iQ v/\(∀ x∈l,QT x/\x.J2=true/\Mx 1200 x)/\l.length=w.ar:=by
 unfold NY at h
 by_cases i2:v.inner.kind=6\/v.inner.kind=8
 ·rw [if_pos i2] at h
  cases hp:AA v.chain v.inner with
  | fin r=>rw [hp] at h;cases h
  | ok a b =>
    rw [hp] at h;cases h;obtain ⟨⟨a1,a2,a3⟩,b1,b2,b3⟩:=A6Y Sm hq hv hb i2 hp;refine ⟨rfl,fun x hx => ?_, ?_⟩
    ·simp only [zFq,zCq,or_false] at hx
     rcases hx with rfl | rfl
     ·exact ⟨b1,b2,b3⟩
     ·exact ⟨a1,a2,a3⟩
    ·unfold Val.ar iQ
     exact (if_pos (show v.inner.kind-1=5\/v.inner.kind-1=7 by omega)).symm
 ·rw [if_neg i2] at h
  cases h;refine ⟨rfl,by simp, ?_⟩
  unfold Val.ar iQ;exact (if_neg (show ¬ (v.inner.kind-1=5\/v.inner.kind-1=7) by omega)).symm
theorem Zu {r:AC} (h:NY v = .fin r):Mo r:=by
 unfold NY at h
 split at h
 ·cases hp:AA v.chain v.inner with
  | fin r'=>rw [hp] at h;cases h;exact jd hp
  | ok a b=>rw [hp] at h;cases h
 ·cases h
variable {L:List Tm}
theorem Rds.next {n:Nat} {O:List Val} (h:Rds n (L++[v]) O) {w:Val} (hr:NY v = .ok w l):Rds (n+1) (L++l) (O++[w]):=by
 obtain ⟨hq,hv,hb⟩:=h.q v (zrq.2 (.inr (znq.2 rfl)));obtain ⟨e,f,g⟩:=B6v hq hv hb hr;have ll:=h.l;have ar2:w.ar<=2:=by unfold Val.ar;split <;> omega
 simp only [zdq,z8q,z4q] at ll;refine ⟨fun x hx => ?_, ?_, ?_,fun x hx => ?_,fun m hm => ?_⟩
 ·rcases zrq.1 hx with hx | hx
  ·exact h.q x (zrq.2 (.inl hx))
  ·exact f x hx
 ·simp only [zdq];omega
 ·have:=h.o;simp only [zdq,z8q,z4q];omega
 ·rcases zrq.1 hx with hx | hx
  ·exact h.b x hx
  ·rw [znq.1 hx,e];exact ⟨rfl,rfl⟩
 ·have:=h.s (w::m) (by
   rw [zdq,List.length_singleton,listing,<- g];rw [zdq] at hm;exact hm)
  rw [zkq];exact this
theorem B9x (r:AC) (n:Nat):DV.agg [A7 0 r.enc,A7 1 r.enc,A7 2 r.enc,A7 3 r.enc,A7 4 r.enc,A7 5 r.enc,A7 6 r.enc,A7 7 r.enc,A7 8 r.enc,A7 9 r.enc,A7 10 r.enc,A7 11 r.enc,A7 12 r.enc,A7 13 r.enc, .int .i64 (n:Int)]=(r.at n).enc:=rfl
theorem B2e:DV.agg ((.int .i64 5)::(Bh [.int .i64 (n:Int)]))=(Rc n).enc:=rfl
theorem A4P (h:L≠[]):∃ M v,L=M++[v]:=⟨L.dropLast,L.getLast h,(List.dropLast_concat_getLast h).symm⟩
variable (F:Nat)
theorem C0Q (hF:F<=65536):∀ (d n:Nat) (L:List Tm) (O:List Val) (k m:Nat) (ds:List DV) (cs:List (DV × Meta)) (sg:List D8),n+d=F->Rds n L O->LR L O 1 k m ds cs sg ->
 KI (run cfg) (.int .i64 (F:Int)) (.int .i64 (n:Int)) sg=some (FN d n L O).enc:=by
 have fin:∀ (d n:Nat) (O:List Val) (k m:Nat) (ds:List DV) (cs:List (DV × Meta)) (sg:List D8),n<=F->Rds n [] O->LR [] O 1 k m ds cs sg->KI (run cfg) (.int .i64 (F:Int)) (.int .i64 (n:Int)) sg=some (A73 n O).enc:=by
  intro d n O k m ds cs sg hn hr h;have ho:=hr.o;have hl:=hr.s [] rfl;rw [zqq] at hl;obtain ⟨t1,-⟩:=A9L O.length O 0 (zoq _) (by omega) hl hr.b
  rw [NN];simp only [h.box,F8,h.vin,TH,z4q,X8,C8,decide_eq_true_eq];rw [if_neg (by decide),A5T h.o]
  simp only [F8,t1,BI,BJ,A4L,AJ,D6,B41];rfl
 intro d
 induction d with
 | zero =>
   intro n L O k m ds cs sg hn hr h;rw [FN]
   by_cases hL:L=[]
   ·subst hL
    rw [if_pos rfl];exact fin 0 n O k m ds cs sg (by omega) hr h
   ·rw [if_neg hL,NN]
    have:=zuq.2 hL;simp only [h.box,F8,h.vin,TH,X8,C8,decide_eq_true_eq,M0,AJ,D6,B2e];rw [if_pos (by omega),if_pos (by omega)]
 | succ d ih =>
   intro n L O k m ds cs sg hn hr h;rw [FN]
   by_cases hL:L=[]
   ·subst hL
    rw [if_pos rfl];exact fin d n O k m ds cs sg (by omega) hr h
   ·rw [if_neg hL,NN]
    obtain ⟨M,v,rfl⟩:=A4P hL;have ll:=hr.l;have ho:=hr.o;obtain ⟨hq,hv,hb⟩:=hr.q v (zrq.2 (.inr (znq.2 rfl)));simp only [zdq,z8q,z4q] at ll;obtain ⟨sg',hs⟩:=B8V h (by omega) (by omega) hq hv hb
    have vin:=h.vin;simp only [h.box,F8,vin,TH,X8,C8,decide_eq_true_eq,M0,AJ,D6];rw [if_pos (show (0:Int)<((M++[v]).length:Nat) by simp only [zdq,z8q,z4q];omega),if_neg (by omega),ztq,zBq]
    cases hf:NY v with
    | fin r =>
      rw [hf] at hs;have ne:=(Zu hf).ne0;simp only [hs,F8,zvq,K9,D6,Hr,C8,z6q,decide_eq_false_iff_not,add1 (show n<9223372036854775807 by omega),AJ,B9x]
      rw [if_pos ne]
    | ok w l =>
      rw [hf] at hs;obtain ⟨s1,m',ds',cs',s2⟩:=hs;simp only [s1,F8,zvq,K9,D6,Hr,show (Y6 0).kind=0 from rfl,C8,decide_true,z3q,z0q,if_false,add1 (show n<9223372036854775807 by omega)]
      exact ih (n+1) _ _ k m' ds' cs' sg' (by omega) (hr.next hf) s2
def r3 (n:Nat) (t:Tm):Option DV:=Qv (run cfg) (.int .i64 (F:Int)) (.bool true) (.int .i64 (n:Int)) (A7 0 t.enc) (A7 1 t.enc) (A7 2 t.enc) (A7 3 t.enc) (A7 4 t.enc) (A7 5 t.enc) (A7 6 t.enc) (A7 7 t.enc) (A7 8 t.enc) (A7 9 t.enc) (A7 10 t.enc) (A7 11 t.enc) (A7 12 t.enc) (A7 13 t.enc) (A7 14 t.enc) (A7 15 t.enc) (A7 16 t.enc) (A7 17 t.enc) (A7 18 t.enc) (A7 19 t.enc)
theorem Rds.one {n:Nat} {t:Tm} (hq:QT t) (hz:t.size<=1200) (hv:t.J2=true):Rds n [t] []:=by
 refine ⟨fun v h => ?_,by simp,by simp,by simp,fun l h=>h⟩
 rw [znq.1 h];exact ⟨hq,hv,Mx.of hq.r hz⟩
theorem C16 (hF:F<=65536):∀ (d n:Nat) (t:Tm),n+d=F->Tx d t->r3 F n t=some (GR d n t).enc:=by
 have val:∀ (d n:Nat) (t:Tm),n+d=F->QT t->t.size<=1200->t.J2=true->r3 F n t=some (FN d n [t] []).enc:=by
  intro d n t hn hq hz hv;unfold r3;rw [PE];simp only [M8,F8,H5,C8,z3q,z0q,if_false,O7,Bp t hq.r,hv];exact C0Q F hF d n [t] [] 0 1 [t.enc] _ _ hn (Rds.one hq hz hv) ⟨rfl,rfl,rfl,rfl,rfl,rfl,by omega⟩
 intro d
 induction d with
 | zero =>
   intro n t hn ht;rw [GR];cases hv:t.J2 with
   | true=>exact val 0 n t hn ht.q ht.z hv
   | false =>
     unfold r3;rw [PE];simp only [M8,F8,H5,C8,z3q,z0q,if_false,O7,Bp t ht.q.r,hv,zcq,if_true];rw [YM];simp only [M0,F8,C8,decide_eq_true_eq,AJ,D6,B2e];rw [if_pos (by omega)]
 | succ d ih =>
   intro n t hn ht;rw [GR];cases hv:t.J2 with
   | true=>exact val (d+1) n t hn ht.q ht.z hv
   | false =>
     unfold r3;rw [PE];simp only [M8,F8,H5,C8,z3q,z0q,if_false,O7,Bp t ht.q.r,hv,zcq,if_true];rw [YM];simp only [M0,F8,C8,decide_eq_true_eq,AJ,D6,B2e,O7,zq t ht.q ht.z,if_true,SR.Yh,SR.Yi];rw [if_neg (by omega)]
     cases hs:t.Bv with
     | fin r =>
       have ne:=(VF t ht.q.r r hs).ne0;simp only [F9,K9,D6];rw [Vg];simp only [Hr,F8,C8,z6q,decide_eq_false_iff_not,add1 (show n<9223372036854775807 by omega),AJ,D6,B9x]
       rw [if_pos ne]
     | ok x =>
       simp only [F9,K9,D6];rw [Vg];simp only [Hr,show (Y6 0).kind=0 from rfl,F8,C8,decide_true,z3q,z0q,if_false,add1 (show n<9223372036854775807 by omega)]
       exact ih (n+1) x (by omega) (ht.step hv hs)
theorem XC {F:Nat} (hF:F<=65536) {t:Tm} (ht:Tx F t):(run cfg).p LC [t.enc, .int .i64 (F:Int)]=some (GR F 0 t).enc:=by
 refine (xW _ _).trans ?_;rw [A1x];have e1:jG (.int .i64 (F:Int)) (.int .i64 0)=some (.int .i64 (F:Int)):=by
  simp only [jG];rw [if_pos trivial,if_neg (by omega)]
 have e2:jH (.int .i64 (F:Int)) (.int .i64 65536)=some (.int .i64 (F:Int)):=by
  simp only [jH];rw [if_pos trivial,if_neg (by omega)]
 simp only [F9,D6,O7,e1,e2,F8,ht.q.closed ht.z];exact C16 F hF F 0 t (by omega) ht
end
end Go.Su

/-
 The calculus: results held against one another; how far it is to a run's end.
-/
namespace Go.Su
inductive Val.pl:Val->Prop where
 | mk (v:Val):v.c=Dj->v.kids.length<=2->(∀ k∈v.kids,Val.pl k)->Val.pl v
variable {v:Val}
theorem Val.pl.co (h:v.pl):v.c=Dj:=by cases h;assumption
theorem Val.pl.len (h:v.pl):v.kids.length<=2:=by cases h;assumption
theorem Val.pl.mem {k:Val} (h:v.pl) (hk:k∈v.kids):k.pl:=by cases h with | mk _ _ _ g=>exact g k hk
theorem Val.pl.no:Uu.pl := .mk _ rfl (by decide) fun k hk=>by cases hk
theorem A3l:∀ (n:Nat) (l:List Val),(∀ w∈l,w.c=Dj/\w.kids=[])->(FI n l).1.pl/\∀ w∈(FI n l).2,w∈l
 | 0,l,h=>⟨Val.pl.no,fun w hw=>hw⟩
 | n+1,[],h=>⟨Val.pl.no,fun w hw=>hw⟩
 | n+1,v::l,h=>by
   have hl:∀ w∈l,w.c=Dj/\w.kids=[]:=fun w hw=>h w (zaq _ hw)
   obtain ⟨h1,h2⟩:=h v (ziq ..);rw [FI]
   split
   ·obtain ⟨a1,a2⟩:=A3l n l hl
    obtain ⟨b1,b2⟩:=A3l n (FI n l).2 fun w hw=>hl w (a2 w hw)
    refine ⟨.mk _ h1 (by simp) fun k hk => ?_,fun w hw=>zaq _ (a2 w (b2 w hw))⟩
    simp only [Val.Q6,zFq,zCq,or_false] at hk;rcases hk with rfl | rfl
    ·exact a1
    ·exact b1
   ·exact ⟨.mk _ h1 (by rw [h2];decide) fun k hk=>(by rw [h2] at hk;cases hk),fun w hw=>zaq _ hw⟩
theorem B0E:(run cfg).p ZY [Dj.enc,Dj.enc]=some (.bool true):=by
 refine (yC _ _).trans ?_;rw [A1S];have hk:Dj.kids=[]:=rfl;have e:RL (run cfg) (.int .i64 0) Dj.enc Dj.enc=some (.bool true):=by
  rw [lH];simp [hk]
 simp [hk,e]
theorem B0F (v:Val):v.pl->(run cfg).p ZZ [v.enc,v.enc]=some (.bool true):=by
 induction v using Val.ind with
 | h v ih =>
   intro hv;have hl:=hv.len;have key:∀ (k i:Nat),i+k=v.kids.length->RN (run cfg) (.int .i64 (i:Int)) v.enc v.enc=some (.bool true):=by
    intro k
    induction k with
    | zero =>
      intro i hi;have:¬ i<v.kids.length:=by omega
      rw [Vu];simp [this]
    | succ k ihk =>
      intro i hi;have h:i<v.kids.length:=by omega
      have:=ihk (i+1) (by omega)
      push_cast at this;rw [Vu];simp [h,I8 h,Val.Q9,Val.ag,ih _ (z5q h) (hv.mem (z5q h)),N9 (show i<9223372036854775807 by omega),this]
   have loop:=key v.kids.length 0 (by omega)
   have cs:=B0E;rw [<- hv.co,X3.H8] at cs;refine (yD _ _).trans ?_;rw [A1T];simp [cs];exact loop
variable {q:AC}
theorem A5k (hv:q.val.pl) (a b:Nat):(run cfg).p IG [(q.at a).enc,(q.at b).enc]=some (.bool true):=by
 refine (Xa _ _).trans ?_;rw [Y_];have A:Vd [.int, .int] (.agg [.int .i64 q.lo, .int .i64 q.hi]) (.agg [.int .i64 q.lo, .int .i64 q.hi])=some true:=by simp [B3L,B3Q,B3R,B3P]
 have V:∀ n,DV.agg [A7 1 (q.at n).enc,A7 2 (q.at n).enc,A7 3 (q.at n).enc,A7 4 (q.at n).enc,A7 5 (q.at n).enc,A7 6 (q.at n).enc,A7 7 (q.at n).enc,A7 8 (q.at n).enc,A7 9 (q.at n).enc]=q.val.enc:=fun n=>by rw [Val.H8];rfl
 have p0:∀ n,A7 0 (q.at n).enc = .int .i64 q.kind:=fun _=>rfl
 have zW:∀ n,A7 10 (q.at n).enc = .int .i64 q.label:=fun _=>rfl
 have p11:∀ n,A7 11 (q.at n).enc = .bool q.neg:=fun _=>rfl
 have p12:∀ n,A7 12 (q.at n).enc = .int .i64 q.lo:=fun _=>rfl
 have p13:∀ n,A7 13 (q.at n).enc = .int .i64 q.hi:=fun _=>rfl
 simp only [K9,D6,V,B0F q.val hv,p0,zW,p11,p12,p13,M0,F8,H5,decide_true,if_true,B3N,A,beq_self_eq_true]
inductive WV:List Tm->List Val->Nat->AC->Prop where
 | nil (O:List Val):WV [] O 0 (A73 0 O)
 | fin {L:List Tm} {O:List Val} {v:Tm} {r:AC}:NY v = .fin r->WV (L++[v]) O 1 r
 | ok {L:List Tm} {O:List Val} {v:Tm} {w:Val} {l:List Tm} {k:Nat} {q:AC}:NY v = .ok w l->WV (L++l) (O++[w]) k q->WV (L++[v]) O (k+1) q
inductive Qt:Tm->Nat->AC->Prop where
 | val {t:Tm} {k:Nat} {q:AC}:t.J2=true->WV [t] [] k q->Qt t k q
 | fin {t:Tm} {r:AC}:t.J2=false->t.Bv = .fin r->Mo r->Qt t 1 r
 | ok {t x:Tm} {k:Nat} {q:AC}:t.J2=false->t.Bv = .ok x->Qt x k q->Qt t (k+1) q
variable {r:AC}
theorem Mo.at0 (h:Mo r):r.at 0=r:=by cases h <;> rfl
theorem Mo.pl (h:Mo r):r.val.pl:=by cases h <;> exact Val.pl.no
theorem Mo.ne5 (h:Mo r):r.kind≠5:=by cases h <;> (first | (show (6:Int)≠5;omega) | (show (2:Int)≠5;omega) | (show (3:Int)≠5;omega) | (show (4:Int)≠5;omega))
theorem B2O {v:Tm} {w:Val} {l:List Tm} (h:NY v = .ok w l):w.c=Dj/\w.kids=[]:=by
 unfold NY at h
 split at h
 ·cases hp:AA v.chain v.inner with
  | fin r=>rw [hp] at h;cases h
  | ok a b=>rw [hp] at h;cases h;exact ⟨rfl,rfl⟩
 ·cases h;exact ⟨rfl,rfl⟩
variable {L:List Tm} {O:List Val} {k:Nat}
theorem WV.facts (h:WV L O k q):(∀ w∈O,w.c=Dj/\w.kids=[])->q.val.pl/\q.kind≠5/\q.at 0=q/\(L≠[]->1<=k):=by
 induction h with
 | nil O=>exact fun h=>⟨(A3l _ _ h).1,by show (1:Int)≠5;omega,rfl,fun h=>absurd rfl h⟩
 | fin h=>exact fun _=>⟨(Zu h).pl,(Zu h).ne5,(Zu h).at0,fun _=>zoq _⟩
 | ok hr _ ih =>
   intro h;obtain ⟨a,b,c,-⟩:=ih fun w hw=>by
    rcases zrq.1 hw with hw | hw
    ·exact h w hw
    ·rw [znq.1 hw];exact B2O hr
   exact ⟨a,b,c,fun _=>by omega⟩
theorem Qt.facts {t:Tm} (h:Qt t k q):q.val.pl/\q.kind≠5/\q.at 0=q/\1<=k:=by
 induction h with
 | val _ h =>
   obtain ⟨a,b,c,d⟩:=h.facts (by simp)
   exact ⟨a,b,c,d (by simp)⟩
 | fin _ _ h=>exact ⟨h.pl,h.ne5,h.at0,zoq _⟩
 | ok _ _ _ ih=>exact ⟨ih.1,ih.2.1,ih.2.2.1,by omega⟩
theorem WV.runs (h:WV L O k q):∀ d n,(k<=d->FN d n L O=q.at (n+k))/\(d<k->FN d n L O=Rc (n+d)):=by
 induction h with
 | nil O =>
   intro d n;refine ⟨fun _ => ?_,fun h=>by omega⟩
   cases d with
   | zero=>rw [FN,if_pos rfl];rfl
   | succ d=>rw [FN,if_pos rfl];rfl
 | @fin L O v r h =>
   intro d n;have ne:L++[v]≠[]:=by simp
   cases d with
   | zero=>exact ⟨fun h=>by omega,fun _=>by rw [FN,if_neg ne];rfl⟩
   | succ d =>
     refine ⟨fun _ => ?_,fun h=>by omega⟩
     rw [FN,if_neg ne,ztq,h]
 | @ok L O v w l k q hr _ ih =>
   intro d n;have ne:L++[v]≠[]:=by simp
   cases d with
   | zero=>exact ⟨fun h=>by omega,fun _=>by rw [FN,if_neg ne];rfl⟩
   | succ d =>
     obtain ⟨i1,i2⟩:=ih d (n+1);rw [FN,if_neg ne,ztq,zBq,hr];refine ⟨fun h => ?_,fun h => ?_⟩
     ·have:=i1 (by omega)
      rw [show n+(k+1)=n+1+k by omega]
      exact this
     ·have:=i2 (by omega)
      rw [show n+(d+1)=n+1+d by omega]
      exact this
theorem Qt.runs {t:Tm} (h:Qt t k q):∀ d n,(k<=d->GR d n t=q.at (n+k))/\(d<k->GR d n t=Rc (n+d)):=by
 induction h with
 | @val t k q hv h =>
   intro d n;cases d with
   | zero=>rw [GR,if_pos hv];exact h.runs 0 n
   | succ d=>rw [GR,if_pos hv];exact h.runs (d+1) n
 | @fin t r hv h _ =>
   intro d n;cases d with
   | zero=>exact ⟨fun h=>by omega,fun _=>by rw [GR,if_neg (by rw [hv];simp)];rfl⟩
   | succ d =>
     refine ⟨fun _ => ?_,fun h=>by omega⟩
     rw [GR,if_neg (by rw [hv];simp),h]
 | @ok t x k q hv hs _ ih =>
   intro d n;cases d with
   | zero=>exact ⟨fun h=>by omega,fun _=>by rw [GR,if_neg (by rw [hv];simp)];rfl⟩
   | succ d =>
     obtain ⟨i1,i2⟩:=ih d (n+1);rw [GR,if_neg (by rw [hv];simp),hs]
     refine ⟨fun h => ?_,fun h => ?_⟩
     ·have:=i1 (by omega)
      rw [show n+(k+1)=n+1+k by omega]
      exact this
     ·have:=i2 (by omega)
      rw [show n+(d+1)=n+1+d by omega]
      exact this
theorem A29:∀ (d n:Nat) (L:List Tm) (O:List Val),(∃ k q,k<=d/\WV L O k q)\/FN d n L O=Rc (n+d)
 | 0,n,L,O=>by
   rw [FN]
   by_cases hL:L=[]
   ·subst hL;exact .inl ⟨0,_,zoq _, .nil O⟩
   ·rw [if_neg hL];exact .inr rfl
 | d+1,n,L,O=>by
   rw [FN]
   by_cases hL:L=[]
   ·subst hL;exact .inl ⟨0,_,by omega, .nil O⟩
   ·rw [if_neg hL]
    obtain ⟨M,v,rfl⟩:=A4P hL;rw [ztq,zBq];cases hr:NY v with
    | fin r=>exact .inl ⟨1,_,by omega, .fin hr⟩
    | ok w l =>
      rcases A29 d (n+1) (M++l) (O++[w]) with ⟨k,q,hk,h⟩ | h
      ·exact .inl ⟨k+1,q,by omega, .ok hr h⟩
      ·exact .inr (by rw [show n+(d+1)=n+1+d by omega];exact h)
theorem B1z:∀ (d n:Nat) (t:Tm),Tx d t->(∃ k q,k<=d/\Qt t k q)\/GR d n t=Rc (n+d)
 | 0,n,t,ht=>by
   rw [GR];cases hv:t.J2 with
   | true =>
     rw [if_pos rfl];rcases A29 0 n [t] [] with ⟨k,q,hk,h⟩ | h
     ·exact .inl ⟨k,q,hk, .val hv h⟩
     ·exact .inr h
   | false=>rw [if_neg (by simp)];exact .inr rfl
 | d+1,n,t,ht=>by
   rw [GR];cases hv:t.J2 with
   | true =>
     rw [if_pos rfl];rcases A29 (d+1) n [t] [] with ⟨k,q,hk,h⟩ | h
     ·exact .inl ⟨k,q,hk, .val hv h⟩
     ·exact .inr h
   | false =>
     rw [if_neg (by simp)]
     cases hs:t.Bv with
     | fin r=>exact .inl ⟨1,r,by omega, .fin hv hs (VF t ht.q.r r hs)⟩
     | ok x =>
       rcases B1z d (n+1) x (ht.step hv hs) with ⟨k,q,hk,h⟩ | h
       ·exact .inl ⟨k+1,q,by omega, .ok hv hs h⟩
       ·exact .inr (by rw [show n+(d+1)=n+1+d by omega];exact h)
end Go.Su

/-
 What the closed call of l25_wakes gives: by rewriting.
-/
namespace Go.Su
theorem B9k:Lt [] = .list 1 []:=by simp [Lt,Hf]
attribute [local congr] C1T C1V C1Y C0w C0v C0h
set_option maxHeartbeats 40000000 in
set_option maxRecDepth 100000 in
theorem jo:(run cfg).p QP []=some (.bool true):=by
 simp (maxSteps:=2000000) (implicitDefEqProofs:=false) [C1W,A1y,qz,xX,A1z,xY,A1A,rE,xZ,rF,lZ,gG,Yt,bX,rC,bH,P_,Pz,lX,A4m,YQ,Vp,A18,gL,OB,bz,Bj,BG,Eb,ZB,Xc,Kw,KZ,rq,QH,mH,FK,BO,Ey,OC,Fx,NS,xG,lD,UO,Rt,tT,xD,UM,tN,rf,Rx,mG,A1W,yG,bS,Mq,ZG,sO,SB,SC,bT,mQ,Ho,Gt,A6z,bK,A4v,A12,yN,sP,mR,lS,ZC,gp,lG,QE,gY,A4p,A2b,A10,yL,gN,b_,JN,De,Ij,A1G,xk,UD,JM,RY,UC,Pn,Po,QZ,Sw,bI,kw,YT,B0n,A8D,B15,B0o,Nv,MG,NP,Nw,Lf,bN,Ih,ZF,ZA,Gz,G_,Xb,sM,SA,mO,A1S,lH,yC,A1F,xh,xK,tY,rz,mI,A1T,Vu,yD,A4o,YS,Vs,Vt,A2a,A1R,rV,Vr,yB,lI,Yy,Yz,gZ,Ws,Vw,lL,UY,kv,gU,rH,bJ,lq,A1V,Ew,EI,EH,EJ,EK,EM,EL,EN,lJ,EO,yF,bR,lM,UT,UU,Ry,YV,bG,ZE,wX,sS,A1Y,yJ,rG,lh,A1Z,sH,sJ,sK,lN,lQ,yK,xN,t_,A6B,A4x,bQ,YU,A1H,Vi,xm,A6A,bL,A4w,kz,QC,gW,rO,Ro,Rq,lu,A1E,xg,A4l,rQ,Vn,A17,xA,tJ,wy,tF,A1D,xf,A4j,YN,YO,A15,rR,lv,A1U,yE,A4n,YR,A19,gJ,Yx,N_,bu,rY,mE,xJ,NR,IW,tX,r_,gM,mJ,Cn,Jg,Df,CJ,wm,UF,sZ,A1K,RX,Vk,xu,xQ,UW,uC,xM,tu,bU,VJ,Sr,KY,NM,XZ,ZH,xO,uA,k_,QD,gX,A1P,lF,x_,A1Q,rU,Vq,UQ,yA,w_,UI,tH,gI,Nz,bZ,A1C,Vh,xe,A4k,YP,A16,A1L,Vl,rJ,rM,xw,xE,lC,tO,rX,mD,A4q,Vv,A2c,xH,tV,A4r,A2d,lK,bO,bP,gm,rW,bM,QG,QF,l_,rZ,gK,Rw,mF,A1X,yH,xL,tZ,ku,gT,wY,sU,rD,Rn,IV,QA,Yu,Gs,Nu,Yv,lY,wo,UG,su,A1I,Vj,xn,Rv,FJ,QJ,gH,VI,XX,XY,bY,wu,UH,sw,Y_,Xa,xF,UN,tQ,A1O,xz,A1B,xc,UR,OA,SF,A1x,PE,YM,NN,Vg,xW,A8x,A5F,A7p,qw,lU,wW,sQ,BF,NQ,Ld,Le,Ar,UB,Pk,Pm,Sv,A11,Vx,yM,ky,Yw,Ny,gV,wZ,sV,wh,UE,sW,A1N,Vo,xy,A1J,xq,gP,cB,sG,mM,sN,mP,sD,Rz,R_,QI,mK,xP,UV,uB,A1M,rP,Vm,UJ,xx,xC,UL,tL,xB,UK,tK,ww,tC,rT,Ru,lw,q_,gF,lV,rA,lW,QU,Ph,
  B9k,B5O,flatK,B19,A2t,B6s,B2q,B7L,B64,B4k,B4l,C2k,C2l,C2m,C2n,C2o,C2p,C2q,C2r,C2s,C2t,C1o,C1p,C1q,C1r,C1s,C1t,C2u,C2v,C2w,C2x,C2y,C2z,C2A,C2B,C0n,C0m,C0p,C0o,Nt,U9,A8p,IU,U2,lim,B9J,B9H,B5E,B3Y,C1l,C1m,isKey,B3L,B3R,B4z,C0X,C0V,C0W,C0U,B2S,A9s,fB,pack,B6U,B9g,B9f,B9h,B9i,B9j,B49,B5b,B5a,B5c,B5d,B9m,C1e,B5f,B5g,B0f,B0g,B44,B47,B45,B46,C1d,C1c,C1a,C1b,B88,B87,B5e,B5h,B81,B80,B85,B82,B83,B84,B9a,B89,B9e,B9b,B9c,B9d,B86,C09,B3g,B48,B6V,B6W,B6X,B6Y,B9l,putAt,J5,B3Q,B3P,B9I,B7P,-E9,-C8,-H5,↓E9,↓B6n,↓D6,↓B4y,↓B7x,↓B7w,↓B7v,↓B7u,E9,B7x,B7w,B7v,B7u]
end Go.Su

/-
 The law CalcRuns answers true on data.
-/
namespace Go.Su
set_option linter.unusedSectionVars false
theorem A98 (q:AC) (n:Nat):A7 14 (q.at n).enc = .int .i64 (n:Int):=rfl
theorem kd0 (q:AC) (n:Nat):A7 0 (q.at n).enc = .int .i64 q.kind:=rfl
theorem B72 (n:Nat):Rc n=(Rc 0).at n:=rfl
section
variable {F k:Nat} {t:Tm} {q:AC} (hF:F<50) (ht:Tx (F+7) t) (he:Qt t k q) (hk:k<=F)
include hF ht he hk
theorem C0R {n j:Nat} {u:Tm} (hu:Tx F u) (eu:Qt u j q) (hj:n+j=k) :
 Ju (run cfg) (.int .i64 (F:Int)) (.int .i64 (n:Int)) t.enc (q.at k).enc u.enc=some (.bool true):=by
 obtain ⟨f1,f2,f3,f4⟩:=he.facts;obtain ⟨-,-,-,f5⟩:=eu.facts;have a1:GR F 0 u=q.at j:=by rw [(eu.runs F 0).1 (by omega),zpq]
 have a2:GR (k-1) 0 t=(Rc 0).at (k-1):=by rw [(he.runs (k-1) 0).2 (by omega),zpq];rfl
 have a3:GR (F+7) 0 t=q.at k:=by rw [(he.runs (F+7) 0).1 (by omega),zpq]
 have e1:A8 .sub (.int .i64 (k:Int)) (.int .i64 1)=some (.int .i64 ((k-1:Nat):Int)):=by
  rw [C04 (by omega)]
  congr 2
  omega
 have e2:A8 .add (.int .i64 (F:Int)) (.int .i64 7)=some (.int .i64 ((F+7:Nat):Int)):=by
  rw [U9,U2 (by omega) (by omega)]
  rfl
 have e3:A8 .add (.int .i64 (j:Int)) (.int .i64 (n:Int))=some (.int .i64 (k:Int)):=by
  rw [U9,U2 (by omega) (by omega)]
  congr 2
  omega
 rw [XX];simp only [O7,XC (show F<=65536 by omega) hu,a1,F8,K9,D6,A98,e1,XC (show k-1<=65536 by omega) (ht.less (show k-1<=F+7 by omega)),a2,e2,XC (show F+7<=65536 by omega) ht,a3]
 rw [XY];simp only [rsE];simp only [A5k f1,F8,H5,if_true,A98,e3,M0,decide_true,kd0,show (Rc 0).kind=5 from rfl,e1,jo]
theorem C0P:∀ (j n:Nat) (u:Tm),n+j=k->Tx (F+7-n) u->Qt u j q->JE (run cfg) (.int .i64 (F:Int)) (.int .i64 (n:Int)) t.enc (q.at k).enc u.enc=some (.bool true):=by
 intro j
 induction j with
 | zero=>intro n u hn hu eu;have:=eu.facts.2.2.2;omega
 | succ j ih =>
   intro n u hn hu eu;obtain ⟨f1,f2,f3,f4⟩:=he.facts;rw [VI];simp only [H7,F8,H5,decide_eq_true_eq,O7,A7y hu.q hu.z,M8,C8];rw [if_pos (by omega)]
   cases hv:u.J2 with
   | true =>
     simp only [z3q,z0q,if_false];have Ia:Tx F u:=⟨hu.q,hu.z,by cases F with | zero=>rfl | succ F=>rw [Z_,if_pos hv]⟩
     exact C0R hF ht he hk Ia eu (by omega)
   | false =>
     simp only [zcq,if_true,A9K hu.q hu.z hv,F8,SR.Yh,SR.Yi];have add:=add1 (n:=n) (by omega)
     cases eu with
     | val MO _=>rw [hv] at MO;cases MO
     | fin MO hs hf =>
       have ne:=hf.ne0;rw [hs];have kn:k=n+1:=by omega
       simp only [F9,K9,D6,Hr,F8,C8,z6q,decide_eq_false_iff_not,rsE];have same:=A5k f1 0 k;rw [f3] at same;rw [if_pos ne,same];simp only [F8,H5,if_true,add,A98,M0,kn,decide_true,jo]
     | ok MO hs hx =>
       rw [hs];simp only [F9,K9,D6,Hr,show (Y6 0).kind=0 from rfl,F8,C8,decide_true,z3q,z0q,if_false,add]
       refine ih (n+1) _ (by omega) ?_ hx
       have e:F+7-n=(F+7-(n+1))+1:=by omega
       rw [e] at hu;exact hu.step hv hs
end
theorem B6d (t:Tm) (fuel:Int) (ht:t.N8<=1048576):(run cfg).p jr [t.enc, .int .i64 fuel]=some (.bool true):=by
 have ft:t.fit:=Tm.bW (by omega)
 refine (bY _ _).trans ?_;rw [gH];obtain ⟨b,hb,-⟩:=A7F [t] (by simp) (by simpa using ft) (by simpa using Tm.B23 (by omega))
 rw [zLq,zyq] at hb;simp only [F9,D6,O7,hb,F8,H5];cases b with
 | true=>rfl
 | false =>
   simp only [z0q,if_false,VD t ft,F8,M8,H5];cases rt:t.right with
   | false=>rfl
   | true =>
     simp only [z3q,z0q,if_false,jg t ft rt (by unfold lim;omega),F8,A3k,X8,C8,decide_eq_true_eq]
     by_cases cl:t.free=[]
     ·rw [cl,if_neg (by decide)]
      obtain ⟨F,hF,e1⟩:=B0S fuel 50 (by omega) (by decide)
      have e2:A8 .add (.int .i64 (F:Int)) (.int .i64 7)=some (.int .i64 ((F+7:Nat):Int)):=by
       rw [U9,U2 (by omega) (by omega)]
       rfl
      obtain ⟨c,hc,tm⟩:=B0P ht rt cl (F:=F+7) (by omega)
      have e1:(run cfg).p ZP [.int .i64 fuel, .int .i64 50]=some (.int .i64 (F:Int)):=e1;simp only [e1,F8,e2,hc,M8,C8];cases c with
      | false=>rfl
      | true =>
        have B3e:=tm rfl;simp only [z3q,z0q,if_false,XC (show F<=65536 by omega) (B3e.less (show F<=F+7 by omega)),F8,K9,D6]
        rcases B1z F 0 t (B3e.less (by omega)) with ⟨k,q,hk,he⟩ | h
        ·obtain ⟨f1,f2,f3,f4⟩:=he.facts
         have a1:GR F 0 t=q.at k:=by rw [(he.runs F 0).1 hk,zpq]
         rw [a1];simp only [kd0,A98,M0,H7,X8,F8,H5,C8,decide_eq_true_eq];rw [if_neg f2,if_neg (by omega),if_neg (by omega)]
         exact C0P hF B3e he hk k 0 t (by omega) B3e he
        ·rw [h,zpq,B72]
         simp only [kd0,A98,M0,F8,H5,C8,decide_eq_true_eq,show (Rc 0).kind=5 from rfl,if_true,jo]
     ·have:=zuq.2 cl
      rw [if_pos (by omega)]
end Go.Su
