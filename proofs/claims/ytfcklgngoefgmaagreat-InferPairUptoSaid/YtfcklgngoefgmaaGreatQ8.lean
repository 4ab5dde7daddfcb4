/-
 The law InferPair answers true, whatever the input that holds at most 1048576 values and letters, and leaves it as it was.
 (The law's own answer on plain data is shown in the texts before; here it is joined with the given row.)
-/
import Derived.Carry
import Derived.JoinedCond
import Derived.OpenShut
import Derived.ProofKit
import Derived.Test.YtfcklgngoefgmaaGreatRows
import Derived.WalkKit
import Derived.Test.YtfcklgngoefgmaaGreatQ3
import Derived.Test.YtfcklgngoefgmaaGreatQ5
import Derived.Test.YtfcklgngoefgmaaGreatQ7
set_option linter.unusedSectionVars false
set_option linter.unusedSimpArgs false
set_option linter.unusedVariables false
namespace Go.Proofs.YtfcklgngoefgmaaGreat
set_option maxRecDepth 100000
open Go.ChangeShapes Go.WideShapes Go.ChangeAt Go.RowKit Go.Su
mutual
theorem jL{H:Type}:∀d:DataW H,Rows.uptoBulk d=BU d
 |.lit l=>by cases l<;>simp[Rows.uptoBulk,BU]
 |.nil=>by simp[Rows.uptoBulk,BU]
 |.ptr d=>by simp[Rows.uptoBulk,BU,jL d]
 |.slice a b=>by simp[Rows.uptoBulk,BU,mM a,mM b]
 |.agg a=>by simp[Rows.uptoBulk,BU,mM a]
 |.iface _ d=>by simp[Rows.uptoBulk,BU,jL d]
 |.map es=>by simp[Rows.uptoBulk,BU,A3l es]
 |.held _=>by simp[Rows.uptoBulk,BU]
theorem mM{H:Type}:∀l:List (DataW H),Rows.uptoBulkAll l=Jd l
 |[]=>by simp[Rows.uptoBulkAll,Jd]
 |d::l=>by simp[Rows.uptoBulkAll,Jd,jL d,mM l]
theorem A3l{H:Type}:∀l:List (Lit×DataW H),Rows.uptoBulkEntries l=SK l
 |[]=>by simp[Rows.uptoBulkEntries,SK]
 |x::l=>by simp[Rows.uptoBulkEntries,SK,B34 x,A3l l]
theorem B34{H:Type}:∀x:Lit×DataW H,Rows.uptoBulkEntry x=tL x
 | (l,d)=>by cases l<;>simp[Rows.uptoBulkEntry,tL,jL d]
end
theorem own:ownKnob Tryz.prog.godebug=none:=by kernel_rfl
theorem laidOut:laidOutB Tryz.prog=true:=by kernel_rfl
theorem i3:UL Tryz.prog 3:=⟨Tryz.underlying3,by kernel_rfl⟩
theorem B81:A0R Tryz.prog 23:=⟨_,_,Tryz.underlying23,by kernel_rfl,⟨i3,rfl⟩,⟨i3,rfl⟩⟩
theorem s9:wL Tryz.prog 9:=⟨Tryz.underlying9,by kernel_rfl⟩
theorem i2:UL Tryz.prog 2:=⟨Tryz.underlying2,by kernel_rfl⟩
theorem B7E:A2b Tryz.prog 26:=⟨_,_,_,Tryz.underlying26,by kernel_rfl,⟨i3,rfl⟩,⟨i3,rfl⟩,⟨⟨Tryz.underlying24,by kernel_rfl⟩,rfl⟩⟩
theorem B9i:A0Q Tryz.prog 71:=⟨_,_,_,_,_,_,Tryz.underlying71,by kernel_rfl,⟨i3,rfl⟩,⟨B81,rfl⟩,⟨s9,rfl⟩,⟨i2,rfl⟩,⟨s9,rfl⟩,⟨⟨Tryz.underlying27,by kernel_rfl⟩,rfl⟩⟩
theorem B7D:B7w Tryz.prog 30:=⟨_,_,_,_,_,_,_,_,_,_,_,Tryz.underlying30,by kernel_rfl,⟨i3,rfl⟩,⟨B81,rfl⟩,⟨s9,rfl⟩,⟨s9,rfl⟩,⟨i2,rfl⟩,⟨s9,rfl⟩,⟨i3,rfl⟩,⟨B7E,rfl⟩,⟨B7E,rfl⟩,⟨⟨71,⟨Tryz.underlying27,by kernel_rfl⟩,B9i⟩,rfl⟩,⟨⟨Tryz.underlying28,by kernel_rfl⟩,rfl⟩⟩
theorem B32{w w':World}{S S':AY}(h:Ext S w.heap S' w'.heap)(o:Y9 w w'):Below w.heap.size w w' :=⟨o.os,o.tape,o.output,h.size,λk hk=>h.blk k hk⟩
theorem A3g{S:AY}{h:Heap}{d:DV}{v:Value}{cs:List DV}(hd:d=.agg cs)(hv:∃vs,v=.agg vs)(hr:RC S h d v.cells.toList):RV S h d v:=by subst hd;obtain⟨vs,rfl⟩:=hv;simp only[RC]at hr;simp only[RV];exact⟨vs,rfl,hr⟩
theorem A3j{P:Program}{w:World}{r:Reach}{b:Nat}{t:TypeId}{v:Value}{fs:Array Field}(ht:P.underlying t=some (.struct fs))(h:Value.okWide P w r b t v):∃vs,v=.agg vs:=by unfold Value.okWide at h;rw[ht]at h;obtain⟨cs,h,-⟩:=h;exact⟨cs,h⟩
theorem contract(H:Type)(D9:TypeId×Value->H)(W:World)(base:Nat)(args:Array Value)(ds gs:List (DataW H))(before:List MemPlace)
 (A6F:∀(j:Nat) t v,Tryz.f7.params[j]?=some t->args[j]?=some v->Value.okWide Tryz.prog W .any base t v)
 (hW:DataW.Whole D9 Tryz.prog Tryz.f7.params.toList Rows.inferPairSpec.vars false W args.toList ds gs before) (hk:Rows.uptoSmall H (ds++gs)=true) :
 Calls Tryz.prog 7 args W λe W'=>∃v,e=.returned v/\Rows.inferPairSpec.post D9 Tryz.prog Tryz.f7 false true false false W args v W':=by
 have hW':=hW;have P6:=hW.lt;obtain⟨p,q,hA0,hV,rfl,hfz,hnd⟩:=hW;have hA:DataW.TrodAll D9 Tryz.prog W 0 (λ_=>true) true Tryz.f7.params.toList args.toList ds p:=hA0;rw[Tryz.params7]at hA A6F;obtain⟨v0,v1,d0,d1,p0,p1,rfl,rfl,rfl,h0,h1⟩:=trodAll_two hA;obtain⟨rfl,rfl⟩:=trodVars_none hV;have C0U:BU d0+BU d1<=1048576:=by have:=of_decide_eq_true hk;simp only[List.append_nil,Rows.uptoBulkAll,jL]at this;omega
 obtain⟨n0,k0⟩:=h0;obtain⟨n1,k1⟩:=h1;obtain⟨x0,r0,b0⟩:=B5W B7D n0 _ _ k0;obtain⟨x1,r1,b1⟩:=B5W B7D n1 _ _ k1;have hl:=B4G x0 x1 (by simp only at b0 b1;omega);have hp:=((B8V B7J).p _ _ _ hl).2;have g0:=A3g (Ex.N8 x0) (A3j Tryz.underlying30 (A6F 0 30 v0 rfl rfl)) r0;have g1:=A3g (Ex.N8 x1) (A3j Tryz.underlying30 (A6F 1 30 v1 rfl rfl)) r1;have hold:∀b o,W.heap.size<=b->¬jA W b o:=λb o hb hs=>Nat.not_lt.2 hb hs;have B9q:SH (jA W) W.heap [x0.D9,x1.D9] [v0,v1]:=by simp only[SH];exact⟨v0,_,rfl,g0,v1,_,rfl,g1,rfl⟩
 have hc:Calls Tryz.prog 7 #[v0,v1] W _:=hp (jA W) W [v0,v1] hold B9q;refine hc.mono λe W' ⟨v,S',he,hx,hv,ho⟩=>?_;simp only[RV]at hv;subst he hv;have hb:=B32 hx ho;refine⟨_,rfl,[d0,d1],[],_,[],p0++p1,[],hW',?_,?_,rfl,hb.frame _,λh=>by cases h⟩
 ·exact trodAll_mk1 (shut_bool Tryz.underlying4 _)
 ·have m0:∀x∈p0,x.block<W.heap.size:=λx hx=>P6 x (by simp[hx]);have m1:∀x∈p1,x.block<W.heap.size:=λx hx=>P6 x (by simp[hx]);rw[Tryz.params7];exact trodAll_mk2 (Below.trod laidOut (by kernel_rfl) (of_decide_eq_true (by kernel_rfl)) ⟨n0,k0⟩ hb m0) (Below.trod laidOut (by kernel_rfl) (of_decide_eq_true (by kernel_rfl)) ⟨n1,k1⟩ hb m1)
theorem lifted(os:Os)(started:os.Started)(H:Type)(D9:TypeId×Value->H)(F:Stop.Interp):
 ReturnsInHanded {} Tryz.checked os 7 .any ((Rows.OpenSpec.upto Rows.inferPairSpec).pre6 D9 Tryz.prog Tryz.f7 Rows.inferPairUptoRow.domain false) (((Rows.OpenSpec.upto Rows.inferPairSpec).at F).post D9 Tryz.prog Tryz.f7 false true false false):=by
 refine returnsInHanded_of_cond (C:=Tryz.checked) (s:=Rows.OpenSpec.upto Rows.inferPairSpec) (k:=Rows.uptoSmall) rfl own started (by kernel_rfl) Tryz.func7
  (OpenSpec.witness (enc:=D9) (C:=Tryz.checked) (s:=Rows.OpenSpec.upto Rows.inferPairSpec) (k:=Rows.uptoSmall) rfl false ⟨#[],#[((Tryz.prog.info? 30).bind (·.zero)).getD undef,((Tryz.prog.info? 30).bind (·.zero)).getD undef],[]⟩ 8 (by kernel_rfl) (by kernel_rfl) (by kernel_rfl)
    (x:=([.agg [.lit (.int .i64 0),.agg [.lit (.int .i64 0),.lit (.int .i64 0)],.lit (.string []),.lit (.string []),.lit (.int .i64 0),.lit (.string []),.lit (.int .i64 0),.agg [.lit (.int .i64 0),.lit (.int .i64 0),.nil],.agg [.lit (.int .i64 0),.lit (.int .i64 0),.nil],.nil,.nil],.agg [.lit (.int .i64 0),.agg [.lit (.int .i64 0),.lit (.int .i64 0)],.lit (.string []),.lit (.string []),.lit (.int .i64 0),.lit (.string []),.lit (.int .i64 0),.agg [.lit (.int .i64 0),.lit (.int .i64 0),.nil],.agg [.lit (.int .i64 0),.lit (.int .i64 0),.nil],.nil,.nil]],[],[])) (by kernel_rfl) rfl (by kernel_rfl)) ?_
 intro W base args ds gs before A6F hW _ hk _;exact contract H D9 W base args ds gs before A6F hW hk
theorem o1:Tryz.pinned.checked.prog.funcNamed Rows.inferPairUptoRow.func=some 7:=by kernel_rfl
theorem o2:joinedFacts Tryz.pinned.checked.prog 7 Tryz.f7 (Rows.OpenSpec.upto Rows.inferPairSpec).bare Rows.inferPairUptoRow=true:=by kernel_rfl
theorem o3:Tryz.f7.isInstance Tryz.pinned.checked.prog Rows.inferPairUptoRow.origin Rows.inferPairUptoRow.targs:=of_decide_eq_true (by kernel_rfl)
theorem o4:Tryz.f7.isWrapper Tryz.pinned.checked.prog Rows.inferPairUptoRow.wrapper Rows.inferPairUptoRow.mainSum:=by unfold Func.isWrapper;first | (rw[A9 (by decide +kernel)];kernel_rfl) | (rw[A7 (by decide +kernel)];exact⟨rfl,rfl⟩)
theorem over:Rows.inferPairUptoRow.holds Tryz.pinned (Rows.OpenSpec.upto Rows.inferPairSpec) :=
 OpenClaim.holds_of_cond 7 Tryz.f7 rfl rfl rfl rfl rfl rfl rfl ⟨rfl,rfl,rfl,rfl,rfl⟩ rfl rfl rfl rfl rfl o1 Tryz.func7 o2 o3 o4
  (λos started H D9 _ F=>lifted os started H D9 F)
theorem proved:Rows.InferPairUptoSaid:=over
end Go.Proofs.YtfcklgngoefgmaaGreat
