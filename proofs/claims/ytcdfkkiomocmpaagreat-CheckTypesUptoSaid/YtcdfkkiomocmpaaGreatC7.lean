/-
 The law CheckTypes answers true, whatever the input that holds at most 1048576 values and letters, and leaves it as it was.
 (The law's own answer on plain data is shown in the texts before; here it is joined with the given row.)
-/
import Derived.Carry
import Derived.JoinedCond
import Derived.OpenShut
import Derived.ProofKit
import Derived.Test.YtcdfkkiomocmpaaGreatRows
import Derived.WalkKit
import Derived.Test.YtcdfkkiomocmpaaGreatC4
import Derived.Test.YtcdfkkiomocmpaaGreatC6
set_option linter.unusedVariables false
set_option linter.unusedSimpArgs false
namespace Go.Proofs.YtcdfkkiomocmpaaGreat
open Go.ChangeShapes Go.WideShapes Go.ChangeAt Go.RowKit Go.Su
set_option linter.unusedVariables false
mutual
theorem bulk_eq {H : Type} : ∀ d : DataW H, Rows.uptoBulk d = bulkW d
 | .lit l => by cases l <;> simp [Rows.uptoBulk, bulkW]
 | .nil => by simp [Rows.uptoBulk, bulkW]
 | .ptr d => by simp [Rows.uptoBulk, bulkW, bulk_eq d]
 | .slice a b => by simp [Rows.uptoBulk, bulkW, bulks_eq a, bulks_eq b]
 | .agg a => by simp [Rows.uptoBulk, bulkW, bulks_eq a]
 | .iface _ d => by simp [Rows.uptoBulk, bulkW, bulk_eq d]
 | .map es => by simp [Rows.uptoBulk, bulkW, bulkes_eq es]
 | .held _ => by simp [Rows.uptoBulk, bulkW]
theorem bulks_eq {H : Type} : ∀ l : List (DataW H), Rows.uptoBulkAll l = bulkAll l
 | [] => by simp [Rows.uptoBulkAll, bulkAll]
 | d :: l => by simp [Rows.uptoBulkAll, bulkAll, bulk_eq d, bulks_eq l]
theorem bulkes_eq {H : Type} : ∀ l : List (Lit × DataW H), Rows.uptoBulkEntries l = bulkEntries l
 | [] => by simp [Rows.uptoBulkEntries, bulkEntries]
 | x :: l => by simp [Rows.uptoBulkEntries, bulkEntries, bulke_eq x, bulkes_eq l]
theorem bulke_eq {H : Type} : ∀ x : Lit × DataW H, Rows.uptoBulkEntry x = bulkEntry x
 | (l, d) => by cases l <;> simp [Rows.uptoBulkEntry, bulkEntry, bulk_eq d]
end
theorem own : ownKnob Tryz.prog.godebug = none := by kernel_rfl
theorem laidOut : laidOutB Tryz.prog = true := by kernel_rfl
set_option maxRecDepth 100000 in
theorem i3 : IntAt Tryz.prog 3 := ⟨Tryz.underlying3, by kernel_rfl⟩
set_option maxRecDepth 100000 in
theorem sp23 : SpanAt Tryz.prog 23 := ⟨_, _, Tryz.underlying23, by kernel_rfl, ⟨i3, rfl⟩, ⟨i3, rfl⟩⟩
set_option maxRecDepth 100000 in
theorem s9 : StrAt Tryz.prog 9 := ⟨Tryz.underlying9, by kernel_rfl⟩
set_option maxRecDepth 100000 in
theorem i2 : IntAt Tryz.prog 2 := ⟨Tryz.underlying2, by kernel_rfl⟩
set_option maxRecDepth 100000 in
theorem b4 : BoolAt Tryz.prog 4 := ⟨Tryz.underlying4, by kernel_rfl⟩
set_option maxRecDepth 100000 in
theorem in24 : IntsAt Tryz.prog 24 := ⟨3, ⟨Tryz.underlying24, by kernel_rfl⟩, i3⟩
set_option maxRecDepth 100000 in
theorem atTy : TyAt Tryz.prog 27 := ⟨_, _, _, Tryz.underlying27, by kernel_rfl, ⟨i3, rfl⟩, ⟨i3, rfl⟩, ⟨⟨Tryz.underlying25, by kernel_rfl⟩, rfl⟩⟩
set_option maxRecDepth 100000 in
theorem atPat : PatAt Tryz.prog 85 := ⟨_, _, _, _, _, _, Tryz.underlying85, by kernel_rfl, ⟨i3, rfl⟩, ⟨sp23, rfl⟩, ⟨s9, rfl⟩, ⟨i2, rfl⟩, ⟨s9, rfl⟩, ⟨⟨Tryz.underlying28, by kernel_rfl⟩, rfl⟩⟩
set_option maxRecDepth 100000 in
theorem atTm : TmAt Tryz.prog 31 := ⟨_, _, _, _, _, _, _, _, _, _, _, _, _, _, _, Tryz.underlying31, by kernel_rfl, ⟨i3, rfl⟩, ⟨sp23, rfl⟩, ⟨s9, rfl⟩, ⟨s9, rfl⟩, ⟨i2, rfl⟩, ⟨s9, rfl⟩, ⟨i3, rfl⟩, ⟨i3, rfl⟩, ⟨b4, rfl⟩, ⟨in24, rfl⟩, ⟨atTy, rfl⟩, ⟨atTy, rfl⟩, ⟨⟨27, ⟨Tryz.underlying25, by kernel_rfl⟩, atTy⟩, rfl⟩, ⟨⟨85, ⟨Tryz.underlying28, by kernel_rfl⟩, atPat⟩, rfl⟩, ⟨⟨Tryz.underlying29, by kernel_rfl⟩, rfl⟩⟩
set_option maxRecDepth 100000 in
theorem atBnd : BndAt Tryz.prog 37 := ⟨_, _, Tryz.underlying37, by kernel_rfl, ⟨i3, rfl⟩, ⟨atTy, rfl⟩⟩
theorem below_of {w w' : World} {S S' : Seal} (h : Ext S w.heap S' w'.heap) (o : Outer w w') : Below w.heap.size w w' :=
 ⟨o.os, o.tape, o.output, h.size, fun k hk => h.blk k hk⟩
theorem RV_of_agg {S : Seal} {h : Heap} {d : DV} {v : Value} {cs : List DV} (hd : d = .agg cs) (hv : ∃ vs, v = .agg vs) (hr : RC S h d v.cells.toList) : RV S h d v := by
 subst hd
 obtain ⟨vs, rfl⟩ := hv
 simp only [RC] at hr
 simp only [RV]
 exact ⟨vs, rfl, hr⟩
theorem agg_of_ok {P : Program} {w : World} {r : Reach} {b : Nat} {t : TypeId} {v : Value} {fs : Array Field} (ht : P.underlying t = some (.struct fs)) (h : Value.okWide P w r b t v) : ∃ vs, v = .agg vs := by
 unfold Value.okWide at h
 rw [ht] at h
 obtain ⟨cs, h, -⟩ := h
 exact ⟨cs, h⟩
set_option maxRecDepth 100000 in
theorem contract (H : Type) (enc : TypeId × Value → H) (W : World) (base : Nat) (args : Array Value) (ds gs : List (DataW H)) (before : List MemPlace)
 (hval : ∀ (j : Nat) t v, Tryz.f3.params[j]? = some t → args[j]? = some v → Value.okWide Tryz.prog W .any base t v)
 (hW : DataW.Whole enc Tryz.prog Tryz.f3.params.toList Rows.checkTypesSpec.vars false W args.toList ds gs before) (hk : Rows.uptoSmall H (ds ++ gs) = true) :
 Calls Tryz.prog 3 args W fun e W' => ∃ v, e = .returned v ∧ Rows.checkTypesSpec.post enc Tryz.prog Tryz.f3 false true false false W args v W' := by
 have hW' := hW
 have hlt := hW.lt
 obtain ⟨p, q, hA0, hV, rfl, hfz, hnd⟩ := hW
 have hA : DataW.TrodAll enc Tryz.prog W 0 (fun _ => true) true Tryz.f3.params.toList args.toList ds p := hA0
 rw [Tryz.params3] at hA hval
 obtain ⟨v0, v1, d0, d1, p0, p1, rfl, rfl, rfl, h0, h1⟩ := trodAll_two hA
 obtain ⟨rfl, rfl⟩ := trodVars_none hV
 have hbulk : bulkW d0 + bulkW d1 ≤ 1048576 := by
  have := of_decide_eq_true hk
  simp only [List.append_nil, Rows.uptoBulkAll, bulk_eq] at this
  omega
 obtain ⟨n0, k0⟩ := h0
 obtain ⟨n1, k1⟩ := h1
 obtain ⟨x0, r0, b0⟩ := rd_Tm atTm n0 _ _ k0
 obtain ⟨x1, r1, b1⟩ := rd_slice (e := encBnd) (sz := fun e => e.2.size) Tryz.underlying32 (by rw [atBnd.cells]; omega) (fun n cs x _ h => rd_Bnd atBnd n cs x h) k1
 rw [atBnd.cells] at r1
 obtain ⟨bz1, bl1⟩ := bnds_size b1
 have hl := law_checktypes x0 x1 (by simp only at b0; omega) (by simp only at bl1; unfold lim; omega) (fun e he => by have := bz1 e he; simp only at this; unfold lim; omega)
 have hp := ((run_ok cfg_ok).p _ _ _ hl).2
 have g0 := RV_of_agg (Tm.enc_eq x0) (agg_of_ok Tryz.underlying31 (hval 0 31 v0 rfl rfl)) r0
 have g1 := RV_of_slice Tryz.underlying32 (hval 1 32 v1 rfl rfl) r1
 have hold : ∀ b o, W.heap.size ≤ b → ¬ Old W b o := fun b o hb hs => Nat.not_lt.2 hb hs
 have hargs : RVs (Old W) W.heap [x0.enc, encBnds x1] [v0, v1] := by
  simp only [RVs]
  exact ⟨v0, _, rfl, g0, v1, _, rfl, g1, rfl⟩
 have hc : Calls Tryz.prog 3 #[v0, v1] W _ := hp (Old W) W [v0, v1] hold hargs
 refine hc.mono fun e W' ⟨v, S', he, hx, hv, ho⟩ => ?_
 simp only [RV] at hv
 subst he hv
 have hb := below_of hx ho
 refine ⟨_, rfl, [d0, d1], [], _, [], p0 ++ p1, [], hW', ?_, ?_, rfl, hb.frame _, fun h => by cases h⟩
 ·exact trodAll_mk1 (shut_bool Tryz.underlying4 _)
 ·have m0 : ∀ x ∈ p0, x.block < W.heap.size := fun x hx => hlt x (by simp [hx])
  have m1 : ∀ x ∈ p1, x.block < W.heap.size := fun x hx => hlt x (by simp [hx])
  rw [Tryz.params3]
  exact trodAll_mk2 (Below.trod laidOut (by kernel_rfl) (of_decide_eq_true (by kernel_rfl)) ⟨n0, k0⟩ hb m0) (Below.trod laidOut (by kernel_rfl) (of_decide_eq_true (by kernel_rfl)) ⟨n1, k1⟩ hb m1)
set_option maxRecDepth 100000 in
theorem lifted (os : Os) (started : os.Started) (H : Type) (enc : TypeId × Value → H) (F : Stop.Interp) :
 ReturnsInHanded {} Tryz.checked os 3 .any ((Rows.OpenSpec.upto Rows.checkTypesSpec).pre6 enc Tryz.prog Tryz.f3 Rows.checkTypesUptoRow.domain false) (((Rows.OpenSpec.upto Rows.checkTypesSpec).at F).post enc Tryz.prog Tryz.f3 false true false false) := by
 refine returnsInHanded_of_cond (C := Tryz.checked) (s := Rows.OpenSpec.upto Rows.checkTypesSpec) (k := Rows.uptoSmall) rfl own started (by kernel_rfl) Tryz.func3
  (OpenSpec.witness (enc := enc) (C := Tryz.checked) (s := Rows.OpenSpec.upto Rows.checkTypesSpec) (k := Rows.uptoSmall) rfl false ⟨#[], #[((Tryz.prog.info? 31).bind (·.zero)).getD undef, ((Tryz.prog.info? 32).bind (·.zero)).getD undef], []⟩ 8 (by kernel_rfl) (by kernel_rfl) (by kernel_rfl)
    (x := ([.agg [.lit (.int .i64 0), .agg [.lit (.int .i64 0), .lit (.int .i64 0)], .lit (.string []), .lit (.string []), .lit (.int .i64 0), .lit (.string []), .lit (.int .i64 0), .lit (.int .i64 0), .lit (.bool false), .nil, .agg [.lit (.int .i64 0), .lit (.int .i64 0), .nil], .agg [.lit (.int .i64 0), .lit (.int .i64 0), .nil], .nil, .nil, .nil], .nil], [], [])) (by kernel_rfl) rfl (by kernel_rfl)) ?_
 intro W base args ds gs before hval hW _ hk _
 exact contract H enc W base args ds gs before hval hW hk
theorem over : Rows.checkTypesUptoRow.holds Tryz.pinned (Rows.OpenSpec.upto Rows.checkTypesSpec) :=
 OpenClaim.holds_of_cond 3 Tryz.f3 rfl rfl rfl rfl rfl rfl rfl ⟨rfl, rfl, rfl, rfl, rfl⟩ rfl rfl rfl rfl rfl (by kernel_rfl) Tryz.func3 (by kernel_rfl)
  (of_decide_eq_true (by kernel_rfl)) (by unfold Func.isWrapper; first | (rw [if_pos (by decide +kernel)]; kernel_rfl) | (rw [if_neg (by decide +kernel)]; exact ⟨rfl, rfl⟩))
  (fun os started H enc _ F => lifted os started H enc F)
theorem proved : Rows.CheckTypesUptoSaid := over
end Go.Proofs.YtcdfkkiomocmpaaGreat
