/-
 The law InferAsc answers true, whatever the input that holds at most 1048576 values and letters, and leaves it as it was.
 (The law's own answer on plain data is shown in the texts before; here it is joined with the given row.)
-/
import Derived.Carry
import Derived.JoinedCond
import Derived.OpenShut
import Derived.ProofKit
import Derived.Test.YtfcklgngoefgmaaGreatRows
import Derived.WalkKit
import Derived.Test.YtfcklgngoefgmaaGreatQ3
import Derived.Test.YtfcklgngoefgmaaGreatQ5
import Derived.Test.YtfcklgngoefgmaaGreatQ7
set_option linter.unusedVariables false
set_option linter.unusedSimpArgs false
set_option linter.unusedSectionVars false
namespace Go.Proofs.YtfcklgngoefgmaaGreat
set_option maxRecDepth 100000
open Go.ChangeShapes Go.WideShapes Go.ChangeAt Go.RowKit Go.Su
mutual
theorem jA{H:Type}:∀d:DataW H,Rows.uptoBulk d=Bc d
 |.lit l=>by cases l<;>simp[Rows.uptoBulk,Bc]
 |.nil=>by simp[Rows.uptoBulk,Bc]
 |.ptr d=>by simp[Rows.uptoBulk,Bc,jA d]
 |.slice a b=>by simp[Rows.uptoBulk,Bc,lZ a,lZ b]
 |.agg a=>by simp[Rows.uptoBulk,Bc,lZ a]
 |.iface _ d=>by simp[Rows.uptoBulk,Bc,jA d]
 |.map es=>by simp[Rows.uptoBulk,Bc,A29 es]
 |.held _=>by simp[Rows.uptoBulk,Bc]
theorem lZ{H:Type}:∀l:List (DataW H),Rows.uptoBulkAll l=JX l
 |[]=>by simp[Rows.uptoBulkAll,JX]
 |d::l=>by simp[Rows.uptoBulkAll,JX,jA d,lZ l]
theorem A29{H:Type}:∀l:List (Lit×DataW H),Rows.uptoBulkEntries l=Ra l
 |[]=>by simp[Rows.uptoBulkEntries,Ra]
 |x::l=>by simp[Rows.uptoBulkEntries,Ra,B38 x,A29 l]
theorem B38{H:Type}:∀x:Lit×DataW H,Rows.uptoBulkEntry x=sN x
 | (l,d)=>by cases l<;>simp[Rows.uptoBulkEntry,sN,jA d]
end
theorem own:ownKnob Tryz.prog.godebug=none:=by kernel_rfl
theorem laidOut:laidOutB Tryz.prog=true:=by kernel_rfl
theorem i3:Tp Tryz.prog 3:=⟨Tryz.underlying3,by kernel_rfl⟩
theorem B80:A0C Tryz.prog 23:=⟨_,_,Tryz.underlying23,by kernel_rfl,⟨i3,rfl⟩,⟨i3,rfl⟩⟩
theorem s9:vY Tryz.prog 9:=⟨Tryz.underlying9,by kernel_rfl⟩
theorem i2:Tp Tryz.prog 2:=⟨Tryz.underlying2,by kernel_rfl⟩
theorem A5h:A1R Tryz.prog 26:=⟨_,_,_,Tryz.underlying26,by kernel_rfl,⟨i3,rfl⟩,⟨i3,rfl⟩,⟨⟨Tryz.underlying24,by kernel_rfl⟩,rfl⟩⟩
theorem B9h:A0B Tryz.prog 71:=⟨_,_,_,_,_,_,Tryz.underlying71,by kernel_rfl,⟨i3,rfl⟩,⟨B80,rfl⟩,⟨s9,rfl⟩,⟨i2,rfl⟩,⟨s9,rfl⟩,⟨⟨Tryz.underlying27,by kernel_rfl⟩,rfl⟩⟩
theorem B92:B7A Tryz.prog 30:=⟨_,_,_,_,_,_,_,_,_,_,_,Tryz.underlying30,by kernel_rfl,⟨i3,rfl⟩,⟨B80,rfl⟩,⟨s9,rfl⟩,⟨s9,rfl⟩,⟨i2,rfl⟩,⟨s9,rfl⟩,⟨i3,rfl⟩,⟨A5h,rfl⟩,⟨A5h,rfl⟩,⟨⟨71,⟨Tryz.underlying27,by kernel_rfl⟩,B9h⟩,rfl⟩,⟨⟨Tryz.underlying28,by kernel_rfl⟩,rfl⟩⟩
theorem B36{w w':World}{S S':AU}(h:Ext S w.heap S' w'.heap)(o:Y7 w w'):Below w.heap.size w w' :=⟨o.os,o.tape,o.output,h.size,λk hk=>h.blk k hk⟩
theorem B1W{S:AU}{h:Heap}{d:DV}{v:Value}{cs:List DV}(hd:d=.agg cs)(hv:∃vs,v=.agg vs)(hr:RC S h d v.cells.toList):RV S h d v:=by subst hd;obtain⟨vs,rfl⟩:=hv;simp only[RC]at hr;simp only[RV];exact⟨vs,rfl,hr⟩
theorem B1Z{P:Program}{w:World}{r:Reach}{b:Nat}{t:TypeId}{v:Value}{fs:Array Field}(ht:P.underlying t=some (.struct fs))(h:Value.okWide P w r b t v):∃vs,v=.agg vs:=by unfold Value.okWide at h;rw[ht]at h;obtain⟨cs,h,-⟩:=h;exact⟨cs,h⟩
theorem contract(H:Type)(D9:TypeId×Value->H)(W:World)(base:Nat)(args:Array Value)(ds gs:List (DataW H))(before:List MemPlace)
 (A6z:∀(j:Nat) t v,Tryz.f5.params[j]?=some t->args[j]?=some v->Value.okWide Tryz.prog W .any base t v)
 (hW:DataW.Whole D9 Tryz.prog Tryz.f5.params.toList Rows.inferAscSpec.vars false W args.toList ds gs before) (hk:Rows.uptoSmall H (ds++gs)=true) :
 Calls Tryz.prog 5 args W λe W'=>∃v,e=.returned v/\Rows.inferAscSpec.post D9 Tryz.prog Tryz.f5 false true false false W args v W':=by
 have hW':=hW;have P8:=hW.lt;obtain⟨p,q,hA0,hV,rfl,hfz,hnd⟩:=hW;have hA:DataW.TrodAll D9 Tryz.prog W 0 (λ_=>true) true Tryz.f5.params.toList args.toList ds p:=hA0;rw[Tryz.params5]at hA A6z;obtain⟨v0,v1,d0,d1,p0,p1,rfl,rfl,rfl,h0,h1⟩:=trodAll_two hA;obtain⟨rfl,rfl⟩:=trodVars_none hV;have C0P:Bc d0+Bc d1<=1048576:=by have:=of_decide_eq_true hk;simp only[List.append_nil,Rows.uptoBulkAll,jA]at this;omega
 obtain⟨n0,k0⟩:=h0;obtain⟨n1,k1⟩:=h1;obtain⟨x0,r0,b0⟩:=B9L B92 n0 _ _ k0;obtain⟨x1,r1,b1⟩:=bI (e:=Ty.D9) (sz:=Ty.size) Tryz.underlying24 (by rw[A5h.cells];omega) (λn cs x _ h=>B1o A5h n cs x h) k1;rw[A5h.cells]at r1;have hl:=B6G x0 x1 (by simp only at b0 b1;omega);have hp:=((B8U B7M).p _ _ _ hl).2;have g0:=B1W (Ex.O4 x0) (B1Z Tryz.underlying30 (A6z 0 30 v0 rfl rfl)) r0;have g1:=A74 Tryz.underlying24 (A6z 1 24 v1 rfl rfl) r1;have hold:∀b o,W.heap.size<=b->¬iW W b o:=λb o hb hs=>Nat.not_lt.2 hb hs;have B9r:RY (iW W) W.heap [x0.D9,.list 3 (x1.map Ty.D9)] [v0,v1]:=by simp only[RY];exact⟨v0,_,rfl,g0,v1,_,rfl,g1,rfl⟩
 have hc:Calls Tryz.prog 5 #[v0,v1] W _:=hp (iW W) W [v0,v1] hold B9r;refine hc.mono λe W' ⟨v,S',he,hx,hv,ho⟩=>?_;simp only[RV]at hv;subst he hv;have hb:=B36 hx ho;refine⟨_,rfl,[d0,d1],[],_,[],p0++p1,[],hW',?_,?_,rfl,hb.frame _,λh=>by cases h⟩
 ·exact trodAll_mk1 (shut_bool Tryz.underlying4 _)
 ·have m0:∀x∈p0,x.block<W.heap.size:=λx hx=>P8 x (by simp[hx]);have m1:∀x∈p1,x.block<W.heap.size:=λx hx=>P8 x (by simp[hx]);rw[Tryz.params5];exact trodAll_mk2 (Below.trod laidOut (by kernel_rfl) (of_decide_eq_true (by kernel_rfl)) ⟨n0,k0⟩ hb m0) (Below.trod laidOut (by kernel_rfl) (of_decide_eq_true (by kernel_rfl)) ⟨n1,k1⟩ hb m1)
theorem lifted(os:Os)(started:os.Started)(H:Type)(D9:TypeId×Value->H)(F:Stop.Interp):
 ReturnsInHanded {} Tryz.checked os 5 .any ((Rows.OpenSpec.upto Rows.inferAscSpec).pre6 D9 Tryz.prog Tryz.f5 Rows.inferAscUptoRow.domain false) (((Rows.OpenSpec.upto Rows.inferAscSpec).at F).post D9 Tryz.prog Tryz.f5 false true false false):=by
 refine returnsInHanded_of_cond (C:=Tryz.checked) (s:=Rows.OpenSpec.upto Rows.inferAscSpec) (k:=Rows.uptoSmall) rfl own started (by kernel_rfl) Tryz.func5
  (OpenSpec.witness (enc:=D9) (C:=Tryz.checked) (s:=Rows.OpenSpec.upto Rows.inferAscSpec) (k:=Rows.uptoSmall) rfl false ⟨#[],#[((Tryz.prog.info? 30).bind (·.zero)).getD undef,((Tryz.prog.info? 24).bind (·.zero)).getD undef],[]⟩ 8 (by kernel_rfl) (by kernel_rfl) (by kernel_rfl)
    (x:=([.agg [.lit (.int .i64 0),.agg [.lit (.int .i64 0),.lit (.int .i64 0)],.lit (.string []),.lit (.string []),.lit (.int .i64 0),.lit (.string []),.lit (.int .i64 0),.agg [.lit (.int .i64 0),.lit (.int .i64 0),.nil],.agg [.lit (.int .i64 0),.lit (.int .i64 0),.nil],.nil,.nil],.nil],[],[])) (by kernel_rfl) rfl (by kernel_rfl)) ?_
 intro W base args ds gs before A6z hW _ hk _;exact contract H D9 W base args ds gs before A6z hW hk
theorem o1:Tryz.pinned.checked.prog.funcNamed Rows.inferAscUptoRow.func=some 5:=by kernel_rfl
theorem o2:joinedFacts Tryz.pinned.checked.prog 5 Tryz.f5 (Rows.OpenSpec.upto Rows.inferAscSpec).bare Rows.inferAscUptoRow=true:=by kernel_rfl
theorem o3:Tryz.f5.isInstance Tryz.pinned.checked.prog Rows.inferAscUptoRow.origin Rows.inferAscUptoRow.targs:=of_decide_eq_true (by kernel_rfl)
theorem o4:Tryz.f5.isWrapper Tryz.pinned.checked.prog Rows.inferAscUptoRow.wrapper Rows.inferAscUptoRow.mainSum:=by unfold Func.isWrapper;first | (rw[C9 (by decide +kernel)];kernel_rfl) | (rw[A7 (by decide +kernel)];exact⟨rfl,rfl⟩)
theorem over:Rows.inferAscUptoRow.holds Tryz.pinned (Rows.OpenSpec.upto Rows.inferAscSpec) :=
 OpenClaim.holds_of_cond 5 Tryz.f5 rfl rfl rfl rfl rfl rfl rfl ⟨rfl,rfl,rfl,rfl,rfl⟩ rfl rfl rfl rfl rfl o1 Tryz.func5 o2 o3 o4
  (λos started H D9 _ F=>lifted os started H D9 F)
theorem proved:Rows.InferAscUptoSaid:=over
end Go.Proofs.YtfcklgngoefgmaaGreat
