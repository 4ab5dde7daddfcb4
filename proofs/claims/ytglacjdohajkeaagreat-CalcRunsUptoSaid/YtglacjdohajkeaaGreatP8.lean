/-
 The law CalcRuns answers true, whatever the input that holds at most 1048576 values and letters, and leaves it as it was.
 (The law's own answer on plain data is shown in the texts before; here it is joined with the given row.)
-/
import Derived.Carry
import Derived.JoinedCond
import Derived.OpenShut
import Derived.ProofKit
import Derived.Test.YtglacjdohajkeaaGreatRows
import Derived.WalkKit
import Derived.Test.YtglacjdohajkeaaGreatP3
import Derived.Test.YtglacjdohajkeaaGreatP4
import Derived.Test.YtglacjdohajkeaaGreatP7
set_option linter.unusedVariables false
set_option linter.unusedSimpArgs false
namespace Go.Proofs.YtglacjdohajkeaaGreat
set_option maxRecDepth 100000
open Go.ChangeShapes Go.WideShapes Go.ChangeAt Go.RowKit Go.Su
mutual
theorem kP {H:Type}:∀ d:DataW H,Rows.uptoBulk d=AZ d
 | .lit l=>by cases l <;> simp [Rows.uptoBulk,AZ]
 | .nil=>by simp [Rows.uptoBulk,AZ]
 | .ptr d=>by simp [Rows.uptoBulk,AZ,kP d]
 | .slice a b=>by simp [Rows.uptoBulk,AZ,ny a,ny b]
 | .agg a=>by simp [Rows.uptoBulk,AZ,ny a]
 | .iface _ d=>by simp [Rows.uptoBulk,AZ,kP d]
 | .map es=>by simp [Rows.uptoBulk,AZ,A6q es]
 | .held _=>by simp [Rows.uptoBulk,AZ]
theorem ny {H:Type}:∀ l:List (DataW H),Rows.uptoBulkAll l=H_ l
 | []=>by simp [Rows.uptoBulkAll,H_]
 | d::l=>by simp [Rows.uptoBulkAll,H_,kP d,ny l]
theorem A6q {H:Type}:∀ l:List (Lit × DataW H),Rows.uptoBulkEntries l=QW l
 | []=>by simp [Rows.uptoBulkEntries,QW]
 | x::l=>by simp [Rows.uptoBulkEntries,QW,B5x x,A6q l]
theorem B5x {H:Type}:∀ x:Lit × DataW H,Rows.uptoBulkEntry x=wL x
 | (l,d)=>by cases l <;> simp [Rows.uptoBulkEntry,wL,kP d]
end
theorem own:ownKnob Tryz.prog.godebug=none:=by kernel_rfl
theorem laidOut:laidOutB Tryz.prog=true:=by kernel_rfl
theorem i3:Oj Tryz.prog 3:=⟨Tryz.underlying3,by kernel_rfl⟩
theorem C03:A30 Tryz.prog 23:=⟨_,_,Tryz.underlying23,by kernel_rfl,⟨i3,rfl⟩,⟨i3,rfl⟩⟩
theorem s9:A0p Tryz.prog 9:=⟨Tryz.underlying9,by kernel_rfl⟩
theorem i2:Oj Tryz.prog 2:=⟨Tryz.underlying2,by kernel_rfl⟩
theorem b4:B3k Tryz.prog 4:=⟨Tryz.underlying4,by kernel_rfl⟩
theorem C28:A8b Tryz.prog 24:=⟨3,⟨Tryz.underlying24,by kernel_rfl⟩,i3⟩
theorem B5t:A2N Tryz.prog 27:=⟨_,_,_,Tryz.underlying27,by kernel_rfl,⟨i3,rfl⟩,⟨i3,rfl⟩,⟨⟨Tryz.underlying25,by kernel_rfl⟩,rfl⟩⟩
theorem C1j:A3Z Tryz.prog 80:=⟨_,_,_,_,_,_,Tryz.underlying80,by kernel_rfl,⟨i3,rfl⟩,⟨C03,rfl⟩,⟨s9,rfl⟩,⟨i2,rfl⟩,⟨s9,rfl⟩,⟨⟨Tryz.underlying28,by kernel_rfl⟩,rfl⟩⟩
theorem C2h:B9u Tryz.prog 31:=⟨_,_,_,_,_,_,_,_,_,_,_,_,_,_,_,Tryz.underlying31,by kernel_rfl,⟨i3,rfl⟩,⟨C03,rfl⟩,⟨s9,rfl⟩,⟨s9,rfl⟩,⟨i2,rfl⟩,⟨s9,rfl⟩,⟨i3,rfl⟩,⟨i3,rfl⟩,⟨b4,rfl⟩,⟨C28,rfl⟩,⟨B5t,rfl⟩,⟨B5t,rfl⟩,⟨⟨27,⟨Tryz.underlying25,by kernel_rfl⟩,B5t⟩,rfl⟩,⟨⟨80,⟨Tryz.underlying28,by kernel_rfl⟩,C1j⟩,rfl⟩,⟨⟨Tryz.underlying29,by kernel_rfl⟩,rfl⟩⟩
theorem B5w {w w':World} {S S':X6} (h:Ext S w.heap S' w'.heap) (o:Q3 w w'):Below w.heap.size w w' :=
 ⟨o.os,o.tape,o.output,h.size,fun k hk=>h.blk k hk⟩
theorem B3n {S:X6} {h:Heap} {d:DV} {v:Value} {cs:List DV} (hd:d = .agg cs) (hv:∃ vs,v = .agg vs) (hr:RC S h d v.cells.toList):RV S h d v:=by
 subst hd;obtain ⟨vs,rfl⟩:=hv;simp only [RC] at hr;simp only [RV];exact ⟨vs,rfl,hr⟩
theorem B3r {P:Program} {w:World} {r:Reach} {b:Nat} {t:TypeId} {v:Value} {fs:Array Field} (ht:P.underlying t=some (.struct fs)) (h:Value.okWide P w r b t v):∃ vs,v = .agg vs:=by
 unfold Value.okWide at h;rw [ht] at h;obtain ⟨cs,h,-⟩:=h;exact ⟨cs,h⟩
theorem contract (H:Type) (enc:TypeId × Value->H) (W:World) (base:Nat) (args:Array Value) (ds gs:List (DataW H)) (before:List MemPlace)
 (A8Y:∀ (j:Nat) t v,Tryz.f3.params[j]?=some t->args[j]?=some v->Value.okWide Tryz.prog W .any base t v)
 (hW:DataW.Whole enc Tryz.prog Tryz.f3.params.toList Rows.calcRunsSpec.vars false W args.toList ds gs before) (hk:Rows.uptoSmall H (ds++gs)=true) :
 Calls Tryz.prog 3 args W fun e W'=>∃ v,e = .returned v/\Rows.calcRunsSpec.post enc Tryz.prog Tryz.f3 false true false false W args v W':=by
 have hW':=hW;have M4:=hW.lt;obtain ⟨p,q,hA0,hV,rfl,hfz,hnd⟩:=hW;have hA:DataW.TrodAll enc Tryz.prog W 0 (fun _=>true) true Tryz.f3.params.toList args.toList ds p:=hA0
 rw [Tryz.params3] at hA A8Y;obtain ⟨v0,v1,d0,d1,p0,p1,rfl,rfl,rfl,h0,h1⟩:=trodAll_two hA;obtain ⟨rfl,rfl⟩:=trodVars_none hV;have C3M:AZ d0+AZ d1<=1048576:=by
  have:=of_decide_eq_true hk;simp only [List.append_nil,Rows.uptoBulkAll,kP] at this;omega
 obtain ⟨n0,k0⟩:=h0;obtain ⟨n1,k1⟩:=h1;obtain ⟨x0,r0,b0⟩:=C15 C2h n0 _ _ k0;obtain ⟨x1,r1,w1,b1⟩:=MQ Tryz.underlying3 k1;have hl:=B6d x0 x1 (by simp only at b0 b1;omega)
 have hp:=((C0O B9B).p _ _ _ hl).2;have g0:=B3n (Tm.H8 x0) (B3r Tryz.underlying31 (A8Y 0 31 v0 rfl rfl)) r0;have g1:=B3o Tryz.underlying3 (A8Y 1 3 v1 rfl rfl) r1;have hold:∀ b o,W.heap.size<=b->¬ aW W b o:=fun b o hb hs=>Nat.not_lt.2 hb hs
 have C1y:Pj (aW W) W.heap [x0.enc, .int .i64 x1] [v0,v1]:=by
  simp only [Pj];exact ⟨v0,_,rfl,g0,v1,_,rfl,g1,rfl⟩
 have hc:Calls Tryz.prog 3 #[v0,v1] W _:=hp (aW W) W [v0,v1] hold C1y;refine hc.mono fun e W' ⟨v,S',he,hx,hv,ho⟩ => ?_
 simp only [RV] at hv;subst he hv;have hb:=B5w hx ho;refine ⟨_,rfl,[d0,d1],[],_,[],p0++p1,[],hW', ?_, ?_,rfl,hb.frame _,fun h=>by cases h⟩
 ·exact trodAll_mk1 (shut_bool Tryz.underlying4 _)
 ·have m0:∀ x∈p0,x.block<W.heap.size:=fun x hx=>M4 x (by simp [hx])
  have m1:∀ x∈p1,x.block<W.heap.size:=fun x hx=>M4 x (by simp [hx])
  rw [Tryz.params3];exact trodAll_mk2 (Below.trod laidOut (by kernel_rfl) (of_decide_eq_true (by kernel_rfl)) ⟨n0,k0⟩ hb m0) (Below.trod laidOut (by kernel_rfl) (of_decide_eq_true (by kernel_rfl)) ⟨n1,k1⟩ hb m1)
theorem lifted (os:Os) (started:os.Started) (H:Type) (enc:TypeId × Value->H) (F:Stop.Interp) :
 ReturnsInHanded {} Tryz.checked os 3 .any ((Rows.OpenSpec.upto Rows.calcRunsSpec).pre6 enc Tryz.prog Tryz.f3 Rows.calcRunsUptoRow.domain false) (((Rows.OpenSpec.upto Rows.calcRunsSpec).at F).post enc Tryz.prog Tryz.f3 false true false false):=by
 refine returnsInHanded_of_cond (C:=Tryz.checked) (s:=Rows.OpenSpec.upto Rows.calcRunsSpec) (k:=Rows.uptoSmall) rfl own started (by kernel_rfl) Tryz.func3
  (OpenSpec.witness (enc:=enc) (C:=Tryz.checked) (s:=Rows.OpenSpec.upto Rows.calcRunsSpec) (k:=Rows.uptoSmall) rfl false ⟨#[],#[((Tryz.prog.info? 31).bind (·.zero)).getD undef,((Tryz.prog.info? 3).bind (·.zero)).getD undef],[]⟩ 8 (by kernel_rfl) (by kernel_rfl) (by kernel_rfl)
    (x:=([.agg [.lit (.int .i64 0), .agg [.lit (.int .i64 0), .lit (.int .i64 0)], .lit (.string []), .lit (.string []), .lit (.int .i64 0), .lit (.string []), .lit (.int .i64 0), .lit (.int .i64 0), .lit (.bool false), .nil, .agg [.lit (.int .i64 0), .lit (.int .i64 0), .nil], .agg [.lit (.int .i64 0), .lit (.int .i64 0), .nil], .nil, .nil, .nil], .lit (.int .i64 0)],[],[])) (by kernel_rfl) rfl (by kernel_rfl)) ?_
 intro W base args ds gs before A8Y hW _ hk _;exact contract H enc W base args ds gs before A8Y hW hk
theorem o1:Tryz.pinned.checked.prog.funcNamed Rows.calcRunsUptoRow.func=some 3:=by kernel_rfl
theorem o2:joinedFacts Tryz.pinned.checked.prog 3 Tryz.f3 (Rows.OpenSpec.upto Rows.calcRunsSpec).bare Rows.calcRunsUptoRow=true:=by kernel_rfl
theorem o3:Tryz.f3.isInstance Tryz.pinned.checked.prog Rows.calcRunsUptoRow.origin Rows.calcRunsUptoRow.targs:=of_decide_eq_true (by kernel_rfl)
theorem o4:Tryz.f3.isWrapper Tryz.pinned.checked.prog Rows.calcRunsUptoRow.wrapper Rows.calcRunsUptoRow.mainSum:=by unfold Func.isWrapper;first | (rw [if_pos (by decide +kernel)];kernel_rfl) | (rw [if_neg (by decide +kernel)];exact ⟨rfl,rfl⟩)
theorem over:Rows.calcRunsUptoRow.holds Tryz.pinned (Rows.OpenSpec.upto Rows.calcRunsSpec) :=
 OpenClaim.holds_of_cond 3 Tryz.f3 rfl rfl rfl rfl rfl rfl rfl ⟨rfl,rfl,rfl,rfl,rfl⟩ rfl rfl rfl rfl rfl o1 Tryz.func3 o2 o3 o4
  (fun os started H enc _ F=>lifted os started H enc F)
theorem proved:Rows.CalcRunsUptoSaid:=over
end Go.Proofs.YtglacjdohajkeaaGreat
