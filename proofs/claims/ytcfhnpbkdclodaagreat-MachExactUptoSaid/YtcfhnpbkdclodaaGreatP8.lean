/-
 The law MachExact answers true, whatever the input that holds at most 1048576 values and letters, and leaves it as it was.
 (The law's own answer on plain data is shown in the texts before; here it is joined with the given row.)
-/
import Derived.Carry
import Derived.JoinedCond
import Derived.OpenShut
import Derived.ProofKit
import Derived.Test.YtcfhnpbkdclodaaGreatRows
import Derived.WalkKit
import Derived.Test.YtcfhnpbkdclodaaGreatP4
import Derived.Test.YtcfhnpbkdclodaaGreatP7
set_option linter.unusedVariables false
set_option linter.unusedSimpArgs false
namespace Go.Proofs.YtcfhnpbkdclodaaGreat
set_option maxRecDepth 100000
open Go.ChangeShapes Go.WideShapes Go.ChangeAt Go.RowKit Go.Su
mutual
theorem lQ {H : Type} : ∀ d : DataW H, Rows.uptoBulk d = AP d
 | .lit l => by cases l <;> simp [Rows.uptoBulk, AP]
 | .nil => by simp [Rows.uptoBulk, AP]
 | .ptr d => by simp [Rows.uptoBulk, AP, lQ d]
 | .slice a b => by simp [Rows.uptoBulk, AP, qA a, qA b]
 | .agg a => by simp [Rows.uptoBulk, AP, qA a]
 | .iface _ d => by simp [Rows.uptoBulk, AP, lQ d]
 | .map es => by simp [Rows.uptoBulk, AP, A6B es]
 | .held _ => by simp [Rows.uptoBulk, AP]
theorem qA {H : Type} : ∀ l : List (DataW H), Rows.uptoBulkAll l = Gx l
 | [] => by simp [Rows.uptoBulkAll, Gx]
 | d :: l => by simp [Rows.uptoBulkAll, Gx, lQ d, qA l]
theorem A6B {H : Type} : ∀ l : List (Lit × DataW H), Rows.uptoBulkEntries l = Pt l
 | [] => by simp [Rows.uptoBulkEntries, Pt]
 | x :: l => by simp [Rows.uptoBulkEntries, Pt, B4W x, A6B l]
theorem B4W {H : Type} : ∀ x : Lit × DataW H, Rows.uptoBulkEntry x = xf x
 | (l, d) => by cases l <;> simp [Rows.uptoBulkEntry, xf, lQ d]
end
theorem own : ownKnob Tryz.prog.godebug = none := by kernel_rfl
theorem laidOut : laidOutB Tryz.prog = true := by kernel_rfl
theorem i3 : Nt Tryz.prog 3 := ⟨Tryz.underlying3, by kernel_rfl⟩
theorem B9F : A4G Tryz.prog 23 := ⟨_, _, Tryz.underlying23, by kernel_rfl, ⟨i3, rfl⟩, ⟨i3, rfl⟩⟩
theorem s9 : A0Y Tryz.prog 9 := ⟨Tryz.underlying9, by kernel_rfl⟩
theorem i2 : Nt Tryz.prog 2 := ⟨Tryz.underlying2, by kernel_rfl⟩
theorem b4 : B23 Tryz.prog 4 := ⟨Tryz.underlying4, by kernel_rfl⟩
theorem C1w : A79 Tryz.prog 24 := ⟨3, ⟨Tryz.underlying24, by kernel_rfl⟩, i3⟩
theorem B4U : A3u Tryz.prog 27 := ⟨_, _, _, Tryz.underlying27, by kernel_rfl, ⟨i3, rfl⟩, ⟨i3, rfl⟩, ⟨⟨Tryz.underlying25, by kernel_rfl⟩, rfl⟩⟩
theorem B9X : A4F Tryz.prog 99 := ⟨_, _, _, _, _, _, Tryz.underlying99, by kernel_rfl, ⟨i3, rfl⟩, ⟨B9F, rfl⟩, ⟨s9, rfl⟩, ⟨i2, rfl⟩, ⟨s9, rfl⟩, ⟨⟨Tryz.underlying28, by kernel_rfl⟩, rfl⟩⟩
theorem C0N : B8l Tryz.prog 31 := ⟨_, _, _, _, _, _, _, _, _, _, _, _, _, _, _, Tryz.underlying31, by kernel_rfl, ⟨i3, rfl⟩, ⟨B9F, rfl⟩, ⟨s9, rfl⟩, ⟨s9, rfl⟩, ⟨i2, rfl⟩, ⟨s9, rfl⟩, ⟨i3, rfl⟩, ⟨i3, rfl⟩, ⟨b4, rfl⟩, ⟨C1w, rfl⟩, ⟨B4U, rfl⟩, ⟨B4U, rfl⟩, ⟨⟨27, ⟨Tryz.underlying25, by kernel_rfl⟩, B4U⟩, rfl⟩, ⟨⟨99, ⟨Tryz.underlying28, by kernel_rfl⟩, B9X⟩, rfl⟩, ⟨⟨Tryz.underlying29, by kernel_rfl⟩, rfl⟩⟩
theorem B4V {w w' : World} {S S' : Z5} (h : Ext S w.heap S' w'.heap) (o : Z4 w w') : Below w.heap.size w w' :=
 ⟨o.os, o.tape, o.output, h.size, fun k hk => h.blk k hk⟩
theorem B25 {S : Z5} {h : Heap} {d : DV} {v : Value} {cs : List DV} (hd : d = .agg cs) (hv : ∃ vs, v = .agg vs) (hr : RC S h d v.cells.toList) : RV S h d v := by
 subst hd;obtain ⟨vs, rfl⟩ := hv;simp only [RC] at hr;simp only [RV];exact ⟨vs, rfl, hr⟩
theorem B28 {P : Program} {w : World} {r : Reach} {b : Nat} {t : TypeId} {v : Value} {fs : Array Field} (ht : P.underlying t = some (.struct fs)) (h : Value.okWide P w r b t v) : ∃ vs, v = .agg vs := by
 unfold Value.okWide at h;rw [ht] at h;obtain ⟨cs, h, -⟩ := h;exact ⟨cs, h⟩
theorem contract (H : Type) (enc : TypeId × Value -> H) (W : World) (base : Nat) (args : Array Value) (ds gs : List (DataW H)) (before : List MemPlace)
 (A8Z : ∀ (j : Nat) t v, Tryz.f3.params[j]? = some t -> args[j]? = some v -> Value.okWide Tryz.prog W .any base t v)
 (hW : DataW.Whole enc Tryz.prog Tryz.f3.params.toList Rows.machExactSpec.vars false W args.toList ds gs before) (hk : Rows.uptoSmall H (ds ++ gs) = true) :
 Calls Tryz.prog 3 args W fun e W' => ∃ v, e = .returned v /\ Rows.machExactSpec.post enc Tryz.prog Tryz.f3 false true false false W args v W' := by
 have hW' := hW;have L8 := hW.lt;obtain ⟨p, q, hA0, hV, rfl, hfz, hnd⟩ := hW;have hA : DataW.TrodAll enc Tryz.prog W 0 (fun _ => true) true Tryz.f3.params.toList args.toList ds p := hA0
 rw [Tryz.params3] at hA A8Z;obtain ⟨v0, v1, d0, d1, p0, p1, rfl, rfl, rfl, h0, h1⟩ := trodAll_two hA;obtain ⟨rfl, rfl⟩ := trodVars_none hV;have C1N : AP d0 + AP d1 <= 1048576 := by
  have := of_decide_eq_true hk;simp only [List.append_nil, Rows.uptoBulkAll, lQ] at this;omega
 obtain ⟨n0, k0⟩ := h0;obtain ⟨n1, k1⟩ := h1;obtain ⟨x0, r0, b0⟩ := C0C C0N n0 _ _ k0;obtain ⟨x1, r1, w1, b1⟩ := LU Tryz.underlying3 k1;have hl := B3R x0 x1 (by simp only at b0 b1; omega)
 have hp := ((B9w B8s).p _ _ _ hl).2;have g0 := B25 (Tm.F8 x0) (B28 Tryz.underlying31 (A8Z 0 31 v0 rfl rfl)) r0;have g1 := B26 Tryz.underlying3 (A8Z 1 3 v1 rfl rfl) r1;have hold : ∀ b o, W.heap.size <= b -> ¬ aX W b o := fun b o hb hs => Nat.not_lt.2 hb hs
 have C0e : Pq (aX W) W.heap [x0.enc, .int .i64 x1] [v0, v1] := by
  simp only [Pq];exact ⟨v0, _, rfl, g0, v1, _, rfl, g1, rfl⟩
 have hc : Calls Tryz.prog 3 #[v0, v1] W _ := hp (aX W) W [v0, v1] hold C0e;refine hc.mono fun e W' ⟨v, S', he, hx, hv, ho⟩ => ?_
 simp only [RV] at hv;subst he hv;have hb := B4V hx ho;refine ⟨_, rfl, [d0, d1], [], _, [], p0 ++ p1, [], hW', ?_, ?_, rfl, hb.frame _, fun h => by cases h⟩
 ·exact trodAll_mk1 (shut_bool Tryz.underlying4 _)
 ·have m0 : ∀ x ∈ p0, x.block < W.heap.size := fun x hx => L8 x (by simp [hx])
  have m1 : ∀ x ∈ p1, x.block < W.heap.size := fun x hx => L8 x (by simp [hx])
  rw [Tryz.params3];exact trodAll_mk2 (Below.trod laidOut (by kernel_rfl) (of_decide_eq_true (by kernel_rfl)) ⟨n0, k0⟩ hb m0) (Below.trod laidOut (by kernel_rfl) (of_decide_eq_true (by kernel_rfl)) ⟨n1, k1⟩ hb m1)
theorem lifted (os : Os) (started : os.Started) (H : Type) (enc : TypeId × Value -> H) (F : Stop.Interp) :
 ReturnsInHanded {} Tryz.checked os 3 .any ((Rows.OpenSpec.upto Rows.machExactSpec).pre6 enc Tryz.prog Tryz.f3 Rows.machExactUptoRow.domain false) (((Rows.OpenSpec.upto Rows.machExactSpec).at F).post enc Tryz.prog Tryz.f3 false true false false) := by
 refine returnsInHanded_of_cond (C := Tryz.checked) (s := Rows.OpenSpec.upto Rows.machExactSpec) (k := Rows.uptoSmall) rfl own started (by kernel_rfl) Tryz.func3
  (OpenSpec.witness (enc := enc) (C := Tryz.checked) (s := Rows.OpenSpec.upto Rows.machExactSpec) (k := Rows.uptoSmall) rfl false ⟨#[], #[((Tryz.prog.info? 31).bind (·.zero)).getD undef, ((Tryz.prog.info? 3).bind (·.zero)).getD undef], []⟩ 8 (by kernel_rfl) (by kernel_rfl) (by kernel_rfl)
    (x := ([.agg [.lit (.int .i64 0), .agg [.lit (.int .i64 0), .lit (.int .i64 0)], .lit (.string []), .lit (.string []), .lit (.int .i64 0), .lit (.string []), .lit (.int .i64 0), .lit (.int .i64 0), .lit (.bool false), .nil, .agg [.lit (.int .i64 0), .lit (.int .i64 0), .nil], .agg [.lit (.int .i64 0), .lit (.int .i64 0), .nil], .nil, .nil, .nil], .lit (.int .i64 0)], [], [])) (by kernel_rfl) rfl (by kernel_rfl)) ?_
 intro W base args ds gs before A8Z hW _ hk _;exact contract H enc W base args ds gs before A8Z hW hk
theorem o1 : Tryz.pinned.checked.prog.funcNamed Rows.machExactUptoRow.func = some 3 := by kernel_rfl
theorem o2 : joinedFacts Tryz.pinned.checked.prog 3 Tryz.f3 (Rows.OpenSpec.upto Rows.machExactSpec).bare Rows.machExactUptoRow = true := by kernel_rfl
theorem o3 : Tryz.f3.isInstance Tryz.pinned.checked.prog Rows.machExactUptoRow.origin Rows.machExactUptoRow.targs := of_decide_eq_true (by kernel_rfl)
theorem o4 : Tryz.f3.isWrapper Tryz.pinned.checked.prog Rows.machExactUptoRow.wrapper Rows.machExactUptoRow.mainSum := by unfold Func.isWrapper; first | (rw [if_pos (by decide +kernel)]; kernel_rfl) | (rw [if_neg (by decide +kernel)]; exact ⟨rfl, rfl⟩)
theorem over : Rows.machExactUptoRow.holds Tryz.pinned (Rows.OpenSpec.upto Rows.machExactSpec) :=
 OpenClaim.holds_of_cond 3 Tryz.f3 rfl rfl rfl rfl rfl rfl rfl ⟨rfl, rfl, rfl, rfl, rfl⟩ rfl rfl rfl rfl rfl o1 Tryz.func3 o2 o3 o4
  (fun os started H enc _ F => lifted os started H enc F)
theorem proved : Rows.MachExactUptoSaid := over
end Go.Proofs.YtcfhnpbkdclodaaGreat
