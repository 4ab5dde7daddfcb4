/-
 The law ElabExact answers true, whatever the input that holds at most 1048576 values and letters, and leaves it as it was.
 (The law's own answer on plain data is shown in the texts before; here it is joined with the given row.)
-/
import Derived.Carry
import Derived.JoinedCond
import Derived.OpenShut
import Derived.ProofKit
import Derived.Test.YtbmglmlodflfeaaGreatRows
import Derived.WalkKit
import Derived.Test.YtbmglmlodflfeaaGreatP4
import Derived.Test.YtbmglmlodflfeaaGreatP7
set_option linter.unusedVariables false
set_option linter.unusedSimpArgs false
namespace Go.Proofs.YtbmglmlodflfeaaGreat
set_option maxRecDepth 100000
open Go.ChangeShapes Go.WideShapes Go.ChangeAt Go.RowKit Go.Su
mutual
theorem kL {H : Type} : ∀ d : DataW H, Rows.uptoBulk d = Ab d
 | .lit l => by cases l <;> simp [Rows.uptoBulk, Ab]
 | .nil => by simp [Rows.uptoBulk, Ab]
 | .ptr d => by simp [Rows.uptoBulk, Ab, kL d]
 | .slice a b => by simp [Rows.uptoBulk, Ab, nS a, nS b]
 | .agg a => by simp [Rows.uptoBulk, Ab, nS a]
 | .iface _ d => by simp [Rows.uptoBulk, Ab, kL d]
 | .map es => by simp [Rows.uptoBulk, Ab, A4F es]
 | .held _ => by simp [Rows.uptoBulk, Ab]
theorem nS {H : Type} : ∀ l : List (DataW H), Rows.uptoBulkAll l = Fq l
 | [] => by simp [Rows.uptoBulkAll, Fq]
 | d :: l => by simp [Rows.uptoBulkAll, Fq, kL d, nS l]
theorem A4F {H : Type} : ∀ l : List (Lit × DataW H), Rows.uptoBulkEntries l = QZ l
 | [] => by simp [Rows.uptoBulkEntries, QZ]
 | x :: l => by simp [Rows.uptoBulkEntries, QZ, B12 x, A4F l]
theorem B12 {H : Type} : ∀ x : Lit × DataW H, Rows.uptoBulkEntry x = ut x
 | (l, d) => by cases l <;> simp [Rows.uptoBulkEntry, ut, kL d]
end
theorem own : ownKnob Tryz.prog.godebug = none := by kernel_rfl
theorem laidOut : laidOutB Tryz.prog = true := by kernel_rfl
theorem i3 : Q_ Tryz.prog 3 := ⟨Tryz.underlying3, by kernel_rfl⟩
theorem B6r : A2y Tryz.prog 23 := ⟨_, _, Tryz.underlying23, by kernel_rfl, ⟨i3, rfl⟩, ⟨i3, rfl⟩⟩
theorem s9 : y_ Tryz.prog 9 := ⟨Tryz.underlying9, by kernel_rfl⟩
theorem i2 : Q_ Tryz.prog 2 := ⟨Tryz.underlying2, by kernel_rfl⟩
theorem B1Y : A1C Tryz.prog 26 := ⟨_, _, _, Tryz.underlying26, by kernel_rfl, ⟨i3, rfl⟩, ⟨i3, rfl⟩, ⟨⟨Tryz.underlying24, by kernel_rfl⟩, rfl⟩⟩
theorem B6y : A2x Tryz.prog 64 := ⟨_, _, _, _, _, _, Tryz.underlying64, by kernel_rfl, ⟨i3, rfl⟩, ⟨B6r, rfl⟩, ⟨s9, rfl⟩, ⟨i2, rfl⟩, ⟨s9, rfl⟩, ⟨⟨Tryz.underlying27, by kernel_rfl⟩, rfl⟩⟩
theorem B7o : B4U Tryz.prog 30 := ⟨_, _, _, _, _, _, _, _, _, _, _, Tryz.underlying30, by kernel_rfl, ⟨i3, rfl⟩, ⟨B6r, rfl⟩, ⟨s9, rfl⟩, ⟨s9, rfl⟩, ⟨i2, rfl⟩, ⟨s9, rfl⟩, ⟨i3, rfl⟩, ⟨B1Y, rfl⟩, ⟨B1Y, rfl⟩, ⟨⟨64, ⟨Tryz.underlying27, by kernel_rfl⟩, B6y⟩, rfl⟩, ⟨⟨Tryz.underlying28, by kernel_rfl⟩, rfl⟩⟩
theorem B8c : A51 Tryz.prog 31 := ⟨3, ⟨Tryz.underlying31, by kernel_rfl⟩, i3⟩
theorem B3L : A8D Tryz.prog 34 := ⟨_, _, _, Tryz.underlying34, by kernel_rfl, ⟨⟨26, ⟨Tryz.underlying24, by kernel_rfl⟩, B1Y⟩, rfl⟩, ⟨B8c, rfl⟩, ⟨⟨Tryz.underlying32, by kernel_rfl⟩, rfl⟩⟩
theorem B1Z {w w' : World} {S S' : Q6} (h : Ext S w.heap S' w'.heap) (o : Q5 w w') : Below w.heap.size w w' :=
 ⟨o.os, o.tape, o.output, h.size, fun k hk => h.blk k hk⟩
theorem A4z {S : Q6} {h : Heap} {d : DV} {v : Value} {cs : List DV} (hd : d = .agg cs) (hv : ∃ vs, v = .agg vs) (hr : RC S h d v.cells.toList) : RV S h d v := by
 subst hd;obtain ⟨vs, rfl⟩ := hv;simp only [RC] at hr;simp only [RV];exact ⟨vs, rfl, hr⟩
theorem A4B {P : Program} {w : World} {r : Reach} {b : Nat} {t : TypeId} {v : Value} {fs : Array Field} (ht : P.underlying t = some (.struct fs)) (h : Value.okWide P w r b t v) : ∃ vs, v = .agg vs := by
 unfold Value.okWide at h;rw [ht] at h;obtain ⟨cs, h, -⟩ := h;exact ⟨cs, h⟩
theorem contract (H : Type) (enc : TypeId × Value → H) (W : World) (base : Nat) (args : Array Value) (ds gs : List (DataW H)) (before : List MemPlace)
 (A6I : ∀ (j : Nat) t v, Tryz.f4.params[j]? = some t → args[j]? = some v → Value.okWide Tryz.prog W .any base t v)
 (hW : DataW.Whole enc Tryz.prog Tryz.f4.params.toList Rows.elabExactSpec.vars false W args.toList ds gs before) (hk : Rows.uptoSmall H (ds ++ gs) = true) :
 Calls Tryz.prog 4 args W fun e W' => ∃ v, e = .returned v ∧ Rows.elabExactSpec.post enc Tryz.prog Tryz.f4 false true false false W args v W' := by
 have hW' := hW;have H7 := hW.lt;obtain ⟨p, q, hA0, hV, rfl, hfz, hnd⟩ := hW;have hA : DataW.TrodAll enc Tryz.prog W 0 (fun _ => true) true Tryz.f4.params.toList args.toList ds p := hA0
 rw [Tryz.params4] at hA A6I;obtain ⟨v0, v1, d0, d1, p0, p1, rfl, rfl, rfl, h0, h1⟩ := trodAll_two hA;obtain ⟨rfl, rfl⟩ := trodVars_none hV;have B8J : Ab d0 + Ab d1 ≤ 1048576 := by
  have := of_decide_eq_true hk;simp only [List.append_nil, Rows.uptoBulkAll, kL] at this;omega
 obtain ⟨n0, k0⟩ := h0;obtain ⟨n1, k1⟩ := h1;obtain ⟨x0, r0, b0⟩ := B7e B7o n0 _ _ k0;obtain ⟨x1, r1, b1⟩ := B2Y B3L n1 _ _ k1;have hl := B2L x0 x1 (by simp only at b0 b1; omega)
 have hp := ((B6h B41).p _ _ _ hl).2;have g0 := A4z (Ex.F9 x0) (A4B Tryz.underlying30 (A6I 0 30 v0 rfl rfl)) r0;have g1 := A4z (A9.F9 x1) (A4B Tryz.underlying34 (A6I 1 34 v1 rfl rfl)) r1;have hold : ∀ b o, W.heap.size ≤ b → ¬ aV W b o := fun b o hb hs => Nat.not_lt.2 hb hs
 have B6O : Pj (aV W) W.heap [x0.enc, x1.enc] [v0, v1] := by
  simp only [Pj];exact ⟨v0, _, rfl, g0, v1, _, rfl, g1, rfl⟩
 have hc : Calls Tryz.prog 4 #[v0, v1] W _ := hp (aV W) W [v0, v1] hold B6O;refine hc.mono fun e W' ⟨v, S', he, hx, hv, ho⟩ => ?_
 simp only [RV] at hv;subst he hv;have hb := B1Z hx ho;refine ⟨_, rfl, [d0, d1], [], _, [], p0 ++ p1, [], hW', ?_, ?_, rfl, hb.frame _, fun h => by cases h⟩
 ·exact trodAll_mk1 (shut_bool Tryz.underlying4 _)
 ·have m0 : ∀ x ∈ p0, x.block < W.heap.size := fun x hx => H7 x (by simp [hx])
  have m1 : ∀ x ∈ p1, x.block < W.heap.size := fun x hx => H7 x (by simp [hx])
  rw [Tryz.params4];exact trodAll_mk2 (Below.trod laidOut (by kernel_rfl) (of_decide_eq_true (by kernel_rfl)) ⟨n0, k0⟩ hb m0) (Below.trod laidOut (by kernel_rfl) (of_decide_eq_true (by kernel_rfl)) ⟨n1, k1⟩ hb m1)
theorem lifted (os : Os) (started : os.Started) (H : Type) (enc : TypeId × Value → H) (F : Stop.Interp) :
 ReturnsInHanded {} Tryz.checked os 4 .any ((Rows.OpenSpec.upto Rows.elabExactSpec).pre6 enc Tryz.prog Tryz.f4 Rows.elabExactUptoRow.domain false) (((Rows.OpenSpec.upto Rows.elabExactSpec).at F).post enc Tryz.prog Tryz.f4 false true false false) := by
 refine returnsInHanded_of_cond (C := Tryz.checked) (s := Rows.OpenSpec.upto Rows.elabExactSpec) (k := Rows.uptoSmall) rfl own started (by kernel_rfl) Tryz.func4
  (OpenSpec.witness (enc := enc) (C := Tryz.checked) (s := Rows.OpenSpec.upto Rows.elabExactSpec) (k := Rows.uptoSmall) rfl false ⟨#[], #[((Tryz.prog.info? 30).bind (·.zero)).getD undef, ((Tryz.prog.info? 34).bind (·.zero)).getD undef], []⟩ 8 (by kernel_rfl) (by kernel_rfl) (by kernel_rfl)
    (x := ([.agg [.lit (.int .i64 0), .agg [.lit (.int .i64 0), .lit (.int .i64 0)], .lit (.string []), .lit (.string []), .lit (.int .i64 0), .lit (.string []), .lit (.int .i64 0), .agg [.lit (.int .i64 0), .lit (.int .i64 0), .nil], .agg [.lit (.int .i64 0), .lit (.int .i64 0), .nil], .nil, .nil], .agg [.nil, .nil, .nil]], [], [])) (by kernel_rfl) rfl (by kernel_rfl)) ?_
 intro W base args ds gs before A6I hW _ hk _;exact contract H enc W base args ds gs before A6I hW hk
theorem o1 : Tryz.pinned.checked.prog.funcNamed Rows.elabExactUptoRow.func = some 4 := by kernel_rfl
theorem o2 : joinedFacts Tryz.pinned.checked.prog 4 Tryz.f4 (Rows.OpenSpec.upto Rows.elabExactSpec).bare Rows.elabExactUptoRow = true := by kernel_rfl
theorem o3 : Tryz.f4.isInstance Tryz.pinned.checked.prog Rows.elabExactUptoRow.origin Rows.elabExactUptoRow.targs := of_decide_eq_true (by kernel_rfl)
theorem o4 : Tryz.f4.isWrapper Tryz.pinned.checked.prog Rows.elabExactUptoRow.wrapper Rows.elabExactUptoRow.mainSum := by unfold Func.isWrapper; first | (rw [if_pos (by decide +kernel)]; kernel_rfl) | (rw [if_neg (by decide +kernel)]; exact ⟨rfl, rfl⟩)
theorem over : Rows.elabExactUptoRow.holds Tryz.pinned (Rows.OpenSpec.upto Rows.elabExactSpec) :=
 OpenClaim.holds_of_cond 4 Tryz.f4 rfl rfl rfl rfl rfl rfl rfl ⟨rfl, rfl, rfl, rfl, rfl⟩ rfl rfl rfl rfl rfl o1 Tryz.func4 o2 o3 o4
  (fun os started H enc _ F => lifted os started H enc F)
theorem proved : Rows.ElabExactUptoSaid := over
end Go.Proofs.YtbmglmlodflfeaaGreat
