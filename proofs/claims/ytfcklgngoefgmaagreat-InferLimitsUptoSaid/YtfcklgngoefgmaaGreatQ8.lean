/-
 The law InferLimits answers true, whatever the input that holds at most 1048576 values and letters, and leaves it as it was.
 (The law's own answer on plain data is shown in the texts before; here it is joined with the given row.)
-/
import Derived.Carry
import Derived.JoinedCond
import Derived.OpenShut
import Derived.ProofKit
import Derived.Test.YtfcklgngoefgmaaGreatRows
import Derived.WalkKit
import Derived.Test.YtfcklgngoefgmaaGreatQ3
import Derived.Test.YtfcklgngoefgmaaGreatQ5
import Derived.Test.YtfcklgngoefgmaaGreatQ7
set_option linter.unusedVariables false
set_option linter.unusedSimpArgs false
set_option linter.unusedSectionVars false
namespace Go.Proofs.YtfcklgngoefgmaaGreat
set_option maxRecDepth 100000
open Go.ChangeShapes Go.WideShapes Go.ChangeAt Go.RowKit Go.Su
mutual
theorem iY{H:Type}:∀d:DataW H,Rows.uptoBulk d=BP d
 |.lit l=>by cases l<;>simp[Rows.uptoBulk,BP]
 |.nil=>by simp[Rows.uptoBulk,BP]
 |.ptr d=>by simp[Rows.uptoBulk,BP,iY d]
 |.slice a b=>by simp[Rows.uptoBulk,BP,lH a,lH b]
 |.agg a=>by simp[Rows.uptoBulk,BP,lH a]
 |.iface _ d=>by simp[Rows.uptoBulk,BP,iY d]
 |.map es=>by simp[Rows.uptoBulk,BP,A2s es]
 |.held _=>by simp[Rows.uptoBulk,BP]
theorem lH{H:Type}:∀l:List (DataW H),Rows.uptoBulkAll l=JR l
 |[]=>by simp[Rows.uptoBulkAll,JR]
 |d::l=>by simp[Rows.uptoBulkAll,JR,iY d,lH l]
theorem A2s{H:Type}:∀l:List (Lit×DataW H),Rows.uptoBulkEntries l=Rh l
 |[]=>by simp[Rows.uptoBulkEntries,Rh]
 |x::l=>by simp[Rows.uptoBulkEntries,Rh,B2G x,A2s l]
theorem B2G{H:Type}:∀x:Lit×DataW H,Rows.uptoBulkEntry x=rH x
 | (l,d)=>by cases l<;>simp[Rows.uptoBulkEntry,rH,iY d]
end
theorem own:ownKnob Tryz.prog.godebug=none:=by kernel_rfl
theorem laidOut:laidOutB Tryz.prog=true:=by kernel_rfl
theorem i3:Tq Tryz.prog 3:=⟨Tryz.underlying3,by kernel_rfl⟩
theorem B7k:zf Tryz.prog 23:=⟨_,_,Tryz.underlying23,by kernel_rfl,⟨i3,rfl⟩,⟨i3,rfl⟩⟩
theorem s9:ui Tryz.prog 9:=⟨Tryz.underlying9,by kernel_rfl⟩
theorem i2:Tq Tryz.prog 2:=⟨Tryz.underlying2,by kernel_rfl⟩
theorem B5X:A1g Tryz.prog 26:=⟨_,_,_,Tryz.underlying26,by kernel_rfl,⟨i3,rfl⟩,⟨i3,rfl⟩,⟨⟨Tryz.underlying24,by kernel_rfl⟩,rfl⟩⟩
theorem B7D:zZ Tryz.prog 71:=⟨_,_,_,_,_,_,Tryz.underlying71,by kernel_rfl,⟨i3,rfl⟩,⟨B7k,rfl⟩,⟨s9,rfl⟩,⟨i2,rfl⟩,⟨s9,rfl⟩,⟨⟨Tryz.underlying27,by kernel_rfl⟩,rfl⟩⟩
theorem B8o:B5Q Tryz.prog 30:=⟨_,_,_,_,_,_,_,_,_,_,_,Tryz.underlying30,by kernel_rfl,⟨i3,rfl⟩,⟨B7k,rfl⟩,⟨s9,rfl⟩,⟨s9,rfl⟩,⟨i2,rfl⟩,⟨s9,rfl⟩,⟨i3,rfl⟩,⟨B5X,rfl⟩,⟨B5X,rfl⟩,⟨⟨71,⟨Tryz.underlying27,by kernel_rfl⟩,B7D⟩,rfl⟩,⟨⟨Tryz.underlying28,by kernel_rfl⟩,rfl⟩⟩
theorem B2E{w w':World}{S S':AU}(h:Ext S w.heap S' w'.heap)(o:Y9 w w'):Below w.heap.size w w' :=⟨o.os,o.tape,o.output,h.size,λk hk=>h.blk k hk⟩
theorem B0G{S:AU}{h:Heap}{d:DV}{v:Value}{cs:List DV}(hd:d=.agg cs)(hv:∃vs,v=.agg vs)(hr:RC S h d v.cells.toList):RV S h d v:=by subst hd;obtain⟨vs,rfl⟩:=hv;simp only[RC]at hr;simp only[RV];exact⟨vs,rfl,hr⟩
theorem B0J{P:Program}{w:World}{r:Reach}{b:Nat}{t:TypeId}{v:Value}{fs:Array Field}(ht:P.underlying t=some (.struct fs))(h:Value.okWide P w r b t v):∃vs,v=.agg vs:=by unfold Value.okWide at h;rw[ht]at h;obtain⟨cs,h,-⟩:=h;exact⟨cs,h⟩
theorem contract(H:Type)(D9:TypeId×Value->H)(W:World)(base:Nat)(args:Array Value)(ds gs:List (DataW H))(before:List MemPlace)
 (A1L:∀(j:Nat) t v,Tryz.f4.params[j]?=some t->args[j]?=some v->Value.okWide Tryz.prog W .any base t v)
 (hW:DataW.Whole D9 Tryz.prog Tryz.f4.params.toList Rows.inferLimitsSpec.vars false W args.toList ds gs before) (hk:Rows.uptoSmall H (ds++gs)=true) :
 Calls Tryz.prog 4 args W λe W'=>∃v,e=.returned v/\Rows.inferLimitsSpec.post D9 Tryz.prog Tryz.f4 false true false false W args v W':=by
 have hW':=hW;have P6:=hW.lt;obtain⟨p,q,hA0,hV,rfl,hfz,hnd⟩:=hW;have hA:DataW.TrodAll D9 Tryz.prog W 0 (λ_=>true) true Tryz.f4.params.toList args.toList ds p:=hA0;rw[Tryz.params4]at hA A1L;obtain⟨v0,v1,v2,d0,d1,d2,p0,p1,p2,rfl,rfl,rfl,h0,h1,h2⟩:=trodAll_three hA;obtain⟨rfl,rfl⟩:=trodVars_none hV;have B9a:BP d0+BP d1+BP d2<=1048576:=by have:=of_decide_eq_true hk;simp only[List.append_nil,Rows.uptoBulkAll,iY]at this;omega
 obtain⟨n0,k0⟩:=h0;obtain⟨n1,k1⟩:=h1;obtain⟨n2,k2⟩:=h2;obtain⟨x0,r0,b0⟩:=B77 B8o n0 _ _ k0;obtain⟨x1,r1,w1,b1⟩:=QN Tryz.underlying3 k1;obtain⟨x2,r2,w2,b2⟩:=QN Tryz.underlying3 k2;have hl:=A9Q x0 x1 x2 (by simp only at b0;omega);have hp:=((B7e B53).p _ _ _ hl).2;have g0:=B0G (Ex.O4 x0) (B0J Tryz.underlying30 (A1L 0 30 v0 rfl rfl)) r0;have g1:=A2o Tryz.underlying3 (A1L 1 3 v1 rfl rfl) r1;have g2:=A2o Tryz.underlying3 (A1L 2 3 v2 rfl rfl) r2;have hold:∀b o,W.heap.size<=b->¬iM W b o:=λb o hb hs=>Nat.not_lt.2 hb hs;have B7K:Re (iM W) W.heap [x0.D9,.int .i64 x1,.int .i64 x2] [v0,v1,v2]:=by simp only[Re];exact⟨v0,_,rfl,g0,v1,_,rfl,g1,v2,_,rfl,g2,rfl⟩
 have hc:Calls Tryz.prog 4 #[v0,v1,v2] W _:=hp (iM W) W [v0,v1,v2] hold B7K;refine hc.mono λe W' ⟨v,S',he,hx,hv,ho⟩=>?_;simp only[RV]at hv;subst he hv;have hb:=B2E hx ho;refine⟨_,rfl,[d0,d1,d2],[],_,[],p0++(p1++p2),[],hW',?_,?_,rfl,hb.frame _,λh=>by cases h⟩
 ·exact trodAll_mk1 (shut_bool Tryz.underlying4 _)
 ·have m0:∀x∈p0,x.block<W.heap.size:=λx hx=>P6 x (by simp[hx]);have m1:∀x∈p1,x.block<W.heap.size:=λx hx=>P6 x (by simp[hx]);have m2:∀x∈p2,x.block<W.heap.size:=λx hx=>P6 x (by simp[hx]);rw[Tryz.params4];exact trodAll_mk3 (Below.trod laidOut (by kernel_rfl) (of_decide_eq_true (by kernel_rfl)) ⟨n0,k0⟩ hb m0) (Below.trod laidOut (by kernel_rfl) (of_decide_eq_true (by kernel_rfl)) ⟨n1,k1⟩ hb m1) (Below.trod laidOut (by kernel_rfl) (of_decide_eq_true (by kernel_rfl)) ⟨n2,k2⟩ hb m2)
theorem lifted(os:Os)(started:os.Started)(H:Type)(D9:TypeId×Value->H)(F:Stop.Interp):
 ReturnsInHanded {} Tryz.checked os 4 .any ((Rows.OpenSpec.upto Rows.inferLimitsSpec).pre6 D9 Tryz.prog Tryz.f4 Rows.inferLimitsUptoRow.domain false) (((Rows.OpenSpec.upto Rows.inferLimitsSpec).at F).post D9 Tryz.prog Tryz.f4 false true false false):=by
 refine returnsInHanded_of_cond (C:=Tryz.checked) (s:=Rows.OpenSpec.upto Rows.inferLimitsSpec) (k:=Rows.uptoSmall) rfl own started (by kernel_rfl) Tryz.func4
  (OpenSpec.witness (enc:=D9) (C:=Tryz.checked) (s:=Rows.OpenSpec.upto Rows.inferLimitsSpec) (k:=Rows.uptoSmall) rfl false ⟨#[],#[((Tryz.prog.info? 30).bind (·.zero)).getD undef,((Tryz.prog.info? 3).bind (·.zero)).getD undef,((Tryz.prog.info? 3).bind (·.zero)).getD undef],[]⟩ 8 (by kernel_rfl) (by kernel_rfl) (by kernel_rfl)
    (x:=([.agg [.lit (.int .i64 0),.agg [.lit (.int .i64 0),.lit (.int .i64 0)],.lit (.string []),.lit (.string []),.lit (.int .i64 0),.lit (.string []),.lit (.int .i64 0),.agg [.lit (.int .i64 0),.lit (.int .i64 0),.nil],.agg [.lit (.int .i64 0),.lit (.int .i64 0),.nil],.nil,.nil],.lit (.int .i64 0),.lit (.int .i64 0)],[],[])) (by kernel_rfl) rfl (by kernel_rfl)) ?_
 intro W base args ds gs before A1L hW _ hk _;exact contract H D9 W base args ds gs before A1L hW hk
theorem o1:Tryz.pinned.checked.prog.funcNamed Rows.inferLimitsUptoRow.func=some 4:=by kernel_rfl
theorem o2:joinedFacts Tryz.pinned.checked.prog 4 Tryz.f4 (Rows.OpenSpec.upto Rows.inferLimitsSpec).bare Rows.inferLimitsUptoRow=true:=by kernel_rfl
theorem o3:Tryz.f4.isInstance Tryz.pinned.checked.prog Rows.inferLimitsUptoRow.origin Rows.inferLimitsUptoRow.targs:=of_decide_eq_true (by kernel_rfl)
theorem o4:Tryz.f4.isWrapper Tryz.pinned.checked.prog Rows.inferLimitsUptoRow.wrapper Rows.inferLimitsUptoRow.mainSum:=by unfold Func.isWrapper;first | (rw[C8 (by decide +kernel)];kernel_rfl) | (rw[A7 (by decide +kernel)];exact⟨rfl,rfl⟩)
theorem over:Rows.inferLimitsUptoRow.holds Tryz.pinned (Rows.OpenSpec.upto Rows.inferLimitsSpec) :=
 OpenClaim.holds_of_cond 4 Tryz.f4 rfl rfl rfl rfl rfl rfl rfl ⟨rfl,rfl,rfl,rfl,rfl⟩ rfl rfl rfl rfl rfl o1 Tryz.func4 o2 o3 o4
  (λos started H D9 _ F=>lifted os started H D9 F)
theorem proved:Rows.InferLimitsUptoSaid:=over
end Go.Proofs.YtfcklgngoefgmaaGreat
