/-
 The law JudgeExact answers true, whatever the input that holds at most 1048576 values and letters, and leaves it as it was.
 (The law's own answer on plain data is shown in the texts before; here it is joined with the given row.)
-/
import Derived.Carry
import Derived.JoinedCond
import Derived.OpenShut
import Derived.ProofKit
import Derived.Test.YtbmglmlodflfeaaGreatRows
import Derived.WalkKit
import Derived.Test.YtbmglmlodflfeaaGreatP4
import Derived.Test.YtbmglmlodflfeaaGreatP6
set_option linter.unusedVariables false
set_option linter.unusedSimpArgs false
namespace Go.Proofs.YtbmglmlodflfeaaGreat
set_option maxRecDepth 100000
open Go.ChangeShapes Go.WideShapes Go.ChangeAt Go.RowKit Go.Su
mutual
theorem iE {H : Type} : ∀ d : DataW H, Rows.uptoBulk d = AF d
 | .lit l => by cases l <;> simp [Rows.uptoBulk, AF]
 | .nil => by simp [Rows.uptoBulk, AF]
 | .ptr d => by simp [Rows.uptoBulk, AF, iE d]
 | .slice a b => by simp [Rows.uptoBulk, AF, kV a, kV b]
 | .agg a => by simp [Rows.uptoBulk, AF, kV a]
 | .iface _ d => by simp [Rows.uptoBulk, AF, iE d]
 | .map es => by simp [Rows.uptoBulk, AF, A3c es]
 | .held _ => by simp [Rows.uptoBulk, AF]
theorem kV {H : Type} : ∀ l : List (DataW H), Rows.uptoBulkAll l = FN l
 | [] => by simp [Rows.uptoBulkAll, FN]
 | d :: l => by simp [Rows.uptoBulkAll, FN, iE d, kV l]
theorem A3c {H : Type} : ∀ l : List (Lit × DataW H), Rows.uptoBulkEntries l = Pv l
 | [] => by simp [Rows.uptoBulkEntries, Pv]
 | x :: l => by simp [Rows.uptoBulkEntries, Pv, B0u x, A3c l]
theorem B0u {H : Type} : ∀ x : Lit × DataW H, Rows.uptoBulkEntry x = rD x
 | (l, d) => by cases l <;> simp [Rows.uptoBulkEntry, rD, iE d]
end
theorem own : ownKnob Tryz.prog.godebug = none := by kernel_rfl
theorem laidOut : laidOutB Tryz.prog = true := by kernel_rfl
theorem i3 : QX Tryz.prog 3 := ⟨Tryz.underlying3, by kernel_rfl⟩
theorem B4O : A09 Tryz.prog 23 := ⟨_, _, Tryz.underlying23, by kernel_rfl, ⟨i3, rfl⟩, ⟨i3, rfl⟩⟩
theorem s9 : wS Tryz.prog 9 := ⟨Tryz.underlying9, by kernel_rfl⟩
theorem i2 : QX Tryz.prog 2 := ⟨Tryz.underlying2, by kernel_rfl⟩
theorem B0s : A0e Tryz.prog 26 := ⟨_, _, _, Tryz.underlying26, by kernel_rfl, ⟨i3, rfl⟩, ⟨i3, rfl⟩, ⟨⟨Tryz.underlying24, by kernel_rfl⟩, rfl⟩⟩
theorem B4U : A08 Tryz.prog 64 := ⟨_, _, _, _, _, _, Tryz.underlying64, by kernel_rfl, ⟨i3, rfl⟩, ⟨B4O, rfl⟩, ⟨s9, rfl⟩, ⟨i2, rfl⟩, ⟨s9, rfl⟩, ⟨⟨Tryz.underlying27, by kernel_rfl⟩, rfl⟩⟩
theorem B5G : B3h Tryz.prog 30 := ⟨_, _, _, _, _, _, _, _, _, _, _, Tryz.underlying30, by kernel_rfl, ⟨i3, rfl⟩, ⟨B4O, rfl⟩, ⟨s9, rfl⟩, ⟨s9, rfl⟩, ⟨i2, rfl⟩, ⟨s9, rfl⟩, ⟨i3, rfl⟩, ⟨B0s, rfl⟩, ⟨B0s, rfl⟩, ⟨⟨64, ⟨Tryz.underlying27, by kernel_rfl⟩, B4U⟩, rfl⟩, ⟨⟨Tryz.underlying28, by kernel_rfl⟩, rfl⟩⟩
theorem B6t : A4B Tryz.prog 31 := ⟨3, ⟨Tryz.underlying31, by kernel_rfl⟩, i3⟩
theorem B19 : A7c Tryz.prog 34 := ⟨_, _, _, Tryz.underlying34, by kernel_rfl, ⟨⟨26, ⟨Tryz.underlying24, by kernel_rfl⟩, B0s⟩, rfl⟩, ⟨B6t, rfl⟩, ⟨⟨Tryz.underlying32, by kernel_rfl⟩, rfl⟩⟩
theorem B0t {w w' : World} {S S' : Q0} (h : Ext S w.heap S' w'.heap) (o : P9 w w') : Below w.heap.size w w' :=
 ⟨o.os, o.tape, o.output, h.size, fun k hk => h.blk k hk⟩
theorem A26 {S : Q0} {h : Heap} {d : DV} {v : Value} {cs : List DV} (hd : d = .agg cs) (hv : ∃ vs, v = .agg vs) (hr : RC S h d v.cells.toList) : RV S h d v := by
 subst hd;obtain ⟨vs, rfl⟩ := hv;simp only [RC] at hr;simp only [RV];exact ⟨vs, rfl, hr⟩
theorem A28 {P : Program} {w : World} {r : Reach} {b : Nat} {t : TypeId} {v : Value} {fs : Array Field} (ht : P.underlying t = some (.struct fs)) (h : Value.okWide P w r b t v) : ∃ vs, v = .agg vs := by
 unfold Value.okWide at h;rw [ht] at h;obtain ⟨cs, h, -⟩ := h;exact ⟨cs, h⟩
theorem contract (H : Type) (enc : TypeId × Value → H) (W : World) (base : Nat) (args : Array Value) (ds gs : List (DataW H)) (before : List MemPlace)
 (A5i : ∀ (j : Nat) t v, Tryz.f3.params[j]? = some t → args[j]? = some v → Value.okWide Tryz.prog W .any base t v)
 (hW : DataW.Whole enc Tryz.prog Tryz.f3.params.toList Rows.judgeExactSpec.vars false W args.toList ds gs before) (hk : Rows.uptoSmall H (ds ++ gs) = true) :
 Calls Tryz.prog 3 args W fun e W' => ∃ v, e = .returned v ∧ Rows.judgeExactSpec.post enc Tryz.prog Tryz.f3 false true false false W args v W' := by
 have hW' := hW;have I4 := hW.lt;obtain ⟨p, q, hA0, hV, rfl, hfz, hnd⟩ := hW;have hA : DataW.TrodAll enc Tryz.prog W 0 (fun _ => true) true Tryz.f3.params.toList args.toList ds p := hA0
 rw [Tryz.params3] at hA A5i;obtain ⟨v0, v1, d0, d1, p0, p1, rfl, rfl, rfl, h0, h1⟩ := trodAll_two hA;obtain ⟨rfl, rfl⟩ := trodVars_none hV;have B61 : AF d0 + AF d1 ≤ 1048576 := by
  have := of_decide_eq_true hk;simp only [List.append_nil, Rows.uptoBulkAll, iE] at this;omega
 obtain ⟨n0, k0⟩ := h0;obtain ⟨n1, k1⟩ := h1;obtain ⟨x0, r0, b0⟩ := B5x B5G n0 _ _ k0;obtain ⟨x1, r1, b1⟩ := B1n B19 n1 _ _ k1;have hl := A9J x0 x1 (by simp only at b0 b1; omega)
 have hp := ((B4E B3o).p _ _ _ hl).2;have g0 := A26 (Ex.I5 x0) (A28 Tryz.underlying30 (A5i 0 30 v0 rfl rfl)) r0;have g1 := A26 (C8.I5 x1) (A28 Tryz.underlying34 (A5i 1 34 v1 rfl rfl)) r1;have hold : ∀ b o, W.heap.size ≤ b → ¬ ZK W b o := fun b o hb hs => Nat.not_lt.2 hb hs
 have B5a : O_ (ZK W) W.heap [x0.enc, x1.enc] [v0, v1] := by
  simp only [O_];exact ⟨v0, _, rfl, g0, v1, _, rfl, g1, rfl⟩
 have hc : Calls Tryz.prog 3 #[v0, v1] W _ := hp (ZK W) W [v0, v1] hold B5a;refine hc.mono fun e W' ⟨v, S', he, hx, hv, ho⟩ => ?_
 simp only [RV] at hv;subst he hv;have hb := B0t hx ho;refine ⟨_, rfl, [d0, d1], [], _, [], p0 ++ p1, [], hW', ?_, ?_, rfl, hb.frame _, fun h => by cases h⟩
 ·exact trodAll_mk1 (shut_bool Tryz.underlying4 _)
 ·have m0 : ∀ x ∈ p0, x.block < W.heap.size := fun x hx => I4 x (by simp [hx])
  have m1 : ∀ x ∈ p1, x.block < W.heap.size := fun x hx => I4 x (by simp [hx])
  rw [Tryz.params3];exact trodAll_mk2 (Below.trod laidOut (by kernel_rfl) (of_decide_eq_true (by kernel_rfl)) ⟨n0, k0⟩ hb m0) (Below.trod laidOut (by kernel_rfl) (of_decide_eq_true (by kernel_rfl)) ⟨n1, k1⟩ hb m1)
theorem lifted (os : Os) (started : os.Started) (H : Type) (enc : TypeId × Value → H) (F : Stop.Interp) :
 ReturnsInHanded {} Tryz.checked os 3 .any ((Rows.OpenSpec.upto Rows.judgeExactSpec).pre6 enc Tryz.prog Tryz.f3 Rows.judgeExactUptoRow.domain false) (((Rows.OpenSpec.upto Rows.judgeExactSpec).at F).post enc Tryz.prog Tryz.f3 false true false false) := by
 refine returnsInHanded_of_cond (C := Tryz.checked) (s := Rows.OpenSpec.upto Rows.judgeExactSpec) (k := Rows.uptoSmall) rfl own started (by kernel_rfl) Tryz.func3
  (OpenSpec.witness (enc := enc) (C := Tryz.checked) (s := Rows.OpenSpec.upto Rows.judgeExactSpec) (k := Rows.uptoSmall) rfl false ⟨#[], #[((Tryz.prog.info? 30).bind (·.zero)).getD undef, ((Tryz.prog.info? 34).bind (·.zero)).getD undef], []⟩ 8 (by kernel_rfl) (by kernel_rfl) (by kernel_rfl)
    (x := ([.agg [.lit (.int .i64 0), .agg [.lit (.int .i64 0), .lit (.int .i64 0)], .lit (.string []), .lit (.string []), .lit (.int .i64 0), .lit (.string []), .lit (.int .i64 0), .agg [.lit (.int .i64 0), .lit (.int .i64 0), .nil], .agg [.lit (.int .i64 0), .lit (.int .i64 0), .nil], .nil, .nil], .agg [.nil, .nil, .nil]], [], [])) (by kernel_rfl) rfl (by kernel_rfl)) ?_
 intro W base args ds gs before A5i hW _ hk _;exact contract H enc W base args ds gs before A5i hW hk
theorem o1 : Tryz.pinned.checked.prog.funcNamed Rows.judgeExactUptoRow.func = some 3 := by kernel_rfl
theorem o2 : joinedFacts Tryz.pinned.checked.prog 3 Tryz.f3 (Rows.OpenSpec.upto Rows.judgeExactSpec).bare Rows.judgeExactUptoRow = true := by kernel_rfl
theorem o3 : Tryz.f3.isInstance Tryz.pinned.checked.prog Rows.judgeExactUptoRow.origin Rows.judgeExactUptoRow.targs := of_decide_eq_true (by kernel_rfl)
theorem o4 : Tryz.f3.isWrapper Tryz.pinned.checked.prog Rows.judgeExactUptoRow.wrapper Rows.judgeExactUptoRow.mainSum := by unfold Func.isWrapper; first | (rw [if_pos (by decide +kernel)]; kernel_rfl) | (rw [if_neg (by decide +kernel)]; exact ⟨rfl, rfl⟩)
theorem over : Rows.judgeExactUptoRow.holds Tryz.pinned (Rows.OpenSpec.upto Rows.judgeExactSpec) :=
 OpenClaim.holds_of_cond 3 Tryz.f3 rfl rfl rfl rfl rfl rfl rfl ⟨rfl, rfl, rfl, rfl, rfl⟩ rfl rfl rfl rfl rfl o1 Tryz.func3 o2 o3 o4
  (fun os started H enc _ F => lifted os started H enc F)
theorem proved : Rows.JudgeExactUptoSaid := over
end Go.Proofs.YtbmglmlodflfeaaGreat
