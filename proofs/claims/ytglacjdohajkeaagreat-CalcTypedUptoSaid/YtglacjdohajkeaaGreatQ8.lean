/-
 The law CalcTyped answers true, whatever the input that holds at most 1048576 values and letters, and leaves it as it was.
 (The law's own answer on plain data is shown in the texts before; here it is joined with the given row.)
-/
import Derived.Carry
import Derived.JoinedCond
import Derived.OpenShut
import Derived.ProofKit
import Derived.Test.YtglacjdohajkeaaGreatRows
import Derived.WalkKit
import Derived.Test.YtglacjdohajkeaaGreatQ3
import Derived.Test.YtglacjdohajkeaaGreatQ4
import Derived.Test.YtglacjdohajkeaaGreatQ7
set_option linter.unusedVariables false
set_option linter.unusedSimpArgs false
namespace Go.Proofs.YtglacjdohajkeaaGreat
set_option maxRecDepth 100000
open Go.ChangeShapes Go.WideShapes Go.ChangeAt Go.RowKit Go.Su
mutual
theorem su{H:Type}:∀d:DataW H,Rows.uptoBulk d=BR d
 |.lit l=>by cases l<;>simp[Rows.uptoBulk,BR]
 |.nil=>by simp[Rows.uptoBulk,BR]
 |.ptr d=>by simp[Rows.uptoBulk,BR,su d]
 |.slice a b=>by simp[Rows.uptoBulk,BR,wh a,wh b]
 |.agg a=>by simp[Rows.uptoBulk,BR,wh a]
 |.iface _ d=>by simp[Rows.uptoBulk,BR,su d]
 |.map es=>by simp[Rows.uptoBulk,BR,B0X es]
 |.held _=>by simp[Rows.uptoBulk,BR]
theorem wh{H:Type}:∀l:List (DataW H),Rows.uptoBulkAll l=KR l
 |[]=>by simp[Rows.uptoBulkAll,KR]
 |d::l=>by simp[Rows.uptoBulkAll,KR,su d,wh l]
theorem B0X{H:Type}:∀l:List (Lit×DataW H),Rows.uptoBulkEntries l=UD l
 |[]=>by simp[Rows.uptoBulkEntries,UD]
 |x::l=>by simp[Rows.uptoBulkEntries,UD,C08 x,B0X l]
theorem C08{H:Type}:∀x:Lit×DataW H,Rows.uptoBulkEntry x=A1Z x
 | (l,d)=>by cases l<;>simp[Rows.uptoBulkEntry,A1Z,su d]
end
theorem own:ownKnob Tryz.prog.godebug=none:=by kernel_rfl
theorem laidOut:laidOutB Tryz.prog=true:=by kernel_rfl
theorem i3:SE Tryz.prog 3:=⟨Tryz.underlying3,by kernel_rfl⟩
theorem C6K:A79 Tryz.prog 23:=⟨_,_,Tryz.underlying23,by kernel_rfl,⟨i3,rfl⟩,⟨i3,rfl⟩⟩
theorem s9:A4f Tryz.prog 9:=⟨Tryz.underlying9,by kernel_rfl⟩
theorem i2:SE Tryz.prog 2:=⟨Tryz.underlying2,by kernel_rfl⟩
theorem b4:B8Y Tryz.prog 4:=⟨Tryz.underlying4,by kernel_rfl⟩
theorem C8O:B29 Tryz.prog 24:=⟨3,⟨Tryz.underlying24,by kernel_rfl⟩,i3⟩
theorem C04:A6O Tryz.prog 27:=⟨_,_,_,Tryz.underlying27,by kernel_rfl,⟨i3,rfl⟩,⟨i3,rfl⟩,⟨⟨Tryz.underlying25,by kernel_rfl⟩,rfl⟩⟩
theorem C60:A78 Tryz.prog 80:=⟨_,_,_,_,_,_,Tryz.underlying80,by kernel_rfl,⟨i3,rfl⟩,⟨C6K,rfl⟩,⟨s9,rfl⟩,⟨i2,rfl⟩,⟨s9,rfl⟩,⟨⟨Tryz.underlying28,by kernel_rfl⟩,rfl⟩⟩
theorem C7X:C48 Tryz.prog 31:=⟨_,_,_,_,_,_,_,_,_,_,_,_,_,_,_,Tryz.underlying31,by kernel_rfl,⟨i3,rfl⟩,⟨C6K,rfl⟩,⟨s9,rfl⟩,⟨s9,rfl⟩,⟨i2,rfl⟩,⟨s9,rfl⟩,⟨i3,rfl⟩,⟨i3,rfl⟩,⟨b4,rfl⟩,⟨C8O,rfl⟩,⟨C04,rfl⟩,⟨C04,rfl⟩,⟨⟨27,⟨Tryz.underlying25,by kernel_rfl⟩,C04⟩,rfl⟩,⟨⟨80,⟨Tryz.underlying28,by kernel_rfl⟩,C60⟩,rfl⟩,⟨⟨Tryz.underlying29,by kernel_rfl⟩,rfl⟩⟩
theorem C07{w w':World}{S S':AL}(h:Ext S w.heap S' w'.heap)(o:W9 w w'):Below w.heap.size w w' :=⟨o.os,o.tape,o.output,h.size,λk hk=>h.blk k hk⟩
theorem B80{S:AL}{h:Heap}{d:DV}{v:Value}{cs:List DV}(hd:d=.agg cs)(hv:∃vs,v=.agg vs)(hr:RC S h d v.cells.toList):RV S h d v:=by subst hd;obtain⟨vs,rfl⟩:=hv;simp only[RC]at hr;simp only[RV];exact⟨vs,rfl,hr⟩
theorem B83{P:Program}{w:World}{r:Reach}{b:Nat}{t:TypeId}{v:Value}{fs:Array Field}(ht:P.underlying t=some (.struct fs))(h:Value.okWide P w r b t v):∃vs,v=.agg vs:=by unfold Value.okWide at h;rw[ht]at h;obtain⟨cs,h,-⟩:=h;exact⟨cs,h⟩
theorem contract(H:Type)(A9:TypeId×Value->H)(W:World)(base:Nat)(args:Array Value)(ds gs:List (DataW H))(before:List MemPlace)
 (B37:∀(j:Nat) t v,Tryz.f4.params[j]?=some t->args[j]?=some v->Value.okWide Tryz.prog W .any base t v)
 (hW:DataW.Whole A9 Tryz.prog Tryz.f4.params.toList Rows.calcTypedSpec.vars false W args.toList ds gs before) (hk:Rows.uptoSmall H (ds++gs)=true) :
 Calls Tryz.prog 4 args W λe W'=>∃v,e=.returned v/\Rows.calcTypedSpec.post A9 Tryz.prog Tryz.f4 false true false false W args v W':=by
 have hW':=hW;have P8:=hW.lt;obtain⟨p,q,hA0,hV,rfl,hfz,hnd⟩:=hW;have hA:DataW.TrodAll A9 Tryz.prog W 0 (λ_=>true) true Tryz.f4.params.toList args.toList ds p:=hA0;rw[Tryz.params4]at hA B37;obtain⟨v0,v1,d0,d1,p0,p1,rfl,rfl,rfl,h0,h1⟩:=trodAll_two hA;obtain⟨rfl,rfl⟩:=trodVars_none hV;have C9v:BR d0+BR d1<=1048576:=by have:=of_decide_eq_true hk;simp only[List.append_nil,Rows.uptoBulkAll,su]at this;omega
 obtain⟨n0,k0⟩:=h0;obtain⟨n1,k1⟩:=h1;obtain⟨x0,r0,b0⟩:=C7K C7X n0 _ _ k0;obtain⟨x1,r1,w1,b1⟩:=PQ Tryz.underlying3 k1;have hl:=B9W x0 x1 (by simp only at b0 b1;omega);have hp:=((C6z C5e).p _ _ _ hl).2;have g0:=B80 (Tm.K9 x0) (B83 Tryz.underlying31 (B37 0 31 v0 rfl rfl)) r0;have g1:=B81 Tryz.underlying3 (B37 1 3 v1 rfl rfl) r1;have hold:∀b o,W.heap.size<=b->¬jJ W b o:=λb o hb hs=>Nat.not_lt.2 hb hs;have C7f:TJ (jJ W) W.heap [x0.A9,.int .i64 x1] [v0,v1]:=by simp only[TJ];exact⟨v0,_,rfl,g0,v1,_,rfl,g1,rfl⟩
 have hc:Calls Tryz.prog 4 #[v0,v1] W _:=hp (jJ W) W [v0,v1] hold C7f;refine hc.mono λe W' ⟨v,S',he,hx,hv,ho⟩=>?_;simp only[RV]at hv;subst he hv;have hb:=C07 hx ho;refine⟨_,rfl,[d0,d1],[],_,[],p0++p1,[],hW',?_,?_,rfl,hb.frame _,λh=>by cases h⟩
 ·exact trodAll_mk1 (shut_bool Tryz.underlying4 _)
 ·have m0:∀x∈p0,x.block<W.heap.size:=λx hx=>P8 x (by simp[hx]);have m1:∀x∈p1,x.block<W.heap.size:=λx hx=>P8 x (by simp[hx]);rw[Tryz.params4];exact trodAll_mk2 (Below.trod laidOut (by kernel_rfl) (of_decide_eq_true (by kernel_rfl)) ⟨n0,k0⟩ hb m0) (Below.trod laidOut (by kernel_rfl) (of_decide_eq_true (by kernel_rfl)) ⟨n1,k1⟩ hb m1)
theorem lifted(os:Os)(started:os.Started)(H:Type)(A9:TypeId×Value->H)(F:Stop.Interp):
 ReturnsInHanded {} Tryz.checked os 4 .any ((Rows.OpenSpec.upto Rows.calcTypedSpec).pre6 A9 Tryz.prog Tryz.f4 Rows.calcTypedUptoRow.domain false) (((Rows.OpenSpec.upto Rows.calcTypedSpec).at F).post A9 Tryz.prog Tryz.f4 false true false false):=by
 refine returnsInHanded_of_cond (C:=Tryz.checked) (s:=Rows.OpenSpec.upto Rows.calcTypedSpec) (k:=Rows.uptoSmall) rfl own started (by kernel_rfl) Tryz.func4
  (OpenSpec.witness (enc:=A9) (C:=Tryz.checked) (s:=Rows.OpenSpec.upto Rows.calcTypedSpec) (k:=Rows.uptoSmall) rfl false ⟨#[],#[((Tryz.prog.info? 31).bind (·.zero)).getD undef,((Tryz.prog.info? 3).bind (·.zero)).getD undef],[]⟩ 8 (by kernel_rfl) (by kernel_rfl) (by kernel_rfl)
    (x:=([.agg [.lit (.int .i64 0),.agg [.lit (.int .i64 0),.lit (.int .i64 0)],.lit (.string []),.lit (.string []),.lit (.int .i64 0),.lit (.string []),.lit (.int .i64 0),.lit (.int .i64 0),.lit (.bool false),.nil,.agg [.lit (.int .i64 0),.lit (.int .i64 0),.nil],.agg [.lit (.int .i64 0),.lit (.int .i64 0),.nil],.nil,.nil,.nil],.lit (.int .i64 0)],[],[])) (by kernel_rfl) rfl (by kernel_rfl)) ?_
 intro W base args ds gs before B37 hW _ hk _;exact contract H A9 W base args ds gs before B37 hW hk
theorem o1:Tryz.pinned.checked.prog.funcNamed Rows.calcTypedUptoRow.func=some 4:=by kernel_rfl
theorem o2:joinedFacts Tryz.pinned.checked.prog 4 Tryz.f4 (Rows.OpenSpec.upto Rows.calcTypedSpec).bare Rows.calcTypedUptoRow=true:=by kernel_rfl
theorem o3:Tryz.f4.isInstance Tryz.pinned.checked.prog Rows.calcTypedUptoRow.origin Rows.calcTypedUptoRow.targs:=of_decide_eq_true (by kernel_rfl)
theorem o4:Tryz.f4.isWrapper Tryz.pinned.checked.prog Rows.calcTypedUptoRow.wrapper Rows.calcTypedUptoRow.mainSum:=by unfold Func.isWrapper;first | (rw[D5 (by decide +kernel)];kernel_rfl) | (rw[C8 (by decide +kernel)];exact⟨rfl,rfl⟩)
theorem over:Rows.calcTypedUptoRow.holds Tryz.pinned (Rows.OpenSpec.upto Rows.calcTypedSpec) :=
 OpenClaim.holds_of_cond 4 Tryz.f4 rfl rfl rfl rfl rfl rfl rfl ⟨rfl,rfl,rfl,rfl,rfl⟩ rfl rfl rfl rfl rfl o1 Tryz.func4 o2 o3 o4
  (λos started H A9 _ F=>lifted os started H A9 F)
theorem proved:Rows.CalcTypedUptoSaid:=over
end Go.Proofs.YtglacjdohajkeaaGreat
