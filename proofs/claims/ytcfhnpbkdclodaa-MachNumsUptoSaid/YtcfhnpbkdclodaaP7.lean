/-
  The law MachNums answers true, whatever the input that holds at most 1048576 values and letters, and leaves it as it was.
  (The law's own answer on plain data is shown in the texts before; here it is joined with the given row.)
-/
import Derived.Carry
import Derived.JoinedCond
import Derived.OpenShut
import Derived.ProofKit
import Derived.Test.YtcfhnpbkdclodaaRows
import Derived.WalkKit
import Derived.Test.YtcfhnpbkdclodaaP4
import Derived.Test.YtcfhnpbkdclodaaP6
set_option linter.unusedVariables false
set_option linter.unusedSimpArgs false
namespace Go.Proofs.Ytcfhnpbkdclodaa
open Go.ChangeShapes Go.WideShapes Go.ChangeAt Go.RowKit Go.Su
set_option linter.unusedVariables false

mutual
theorem bulk_eq {H : Type} : ∀ d : DataW H, Rows.uptoBulk d = bulkW d
  | .lit l => by cases l <;> simp [Rows.uptoBulk, bulkW]
  | .nil => by simp [Rows.uptoBulk, bulkW]
  | .ptr d => by simp [Rows.uptoBulk, bulkW, bulk_eq d]
  | .slice a b => by simp [Rows.uptoBulk, bulkW, bulks_eq a, bulks_eq b]
  | .agg a => by simp [Rows.uptoBulk, bulkW, bulks_eq a]
  | .iface _ d => by simp [Rows.uptoBulk, bulkW, bulk_eq d]
  | .map es => by simp [Rows.uptoBulk, bulkW, bulkes_eq es]
  | .held _ => by simp [Rows.uptoBulk, bulkW]
theorem bulks_eq {H : Type} : ∀ l : List (DataW H), Rows.uptoBulkAll l = bulkAll l
  | [] => by simp [Rows.uptoBulkAll, bulkAll]
  | d :: l => by simp [Rows.uptoBulkAll, bulkAll, bulk_eq d, bulks_eq l]
theorem bulkes_eq {H : Type} : ∀ l : List (Lit × DataW H), Rows.uptoBulkEntries l = bulkEntries l
  | [] => by simp [Rows.uptoBulkEntries, bulkEntries]
  | x :: l => by simp [Rows.uptoBulkEntries, bulkEntries, bulke_eq x, bulkes_eq l]
theorem bulke_eq {H : Type} : ∀ x : Lit × DataW H, Rows.uptoBulkEntry x = bulkEntry x
  | (l, d) => by cases l <;> simp [Rows.uptoBulkEntry, bulkEntry, bulk_eq d]
end

theorem own : ownKnob Try.prog.godebug = none := by kernel_rfl
theorem laidOut : laidOutB Try.prog = true := by kernel_rfl
set_option maxRecDepth 100000 in
theorem i2 : IntAt Try.prog 2 := ⟨Try.underlying2, by kernel_rfl⟩
set_option maxRecDepth 100000 in
theorem i3 : IntAt Try.prog 3 := ⟨Try.underlying3, by kernel_rfl⟩
theorem below_of {w w' : World} {S S' : Seal} (h : Ext S w.heap S' w'.heap) (o : Outer w w') : Below w.heap.size w w' :=
  ⟨o.os, o.tape, o.output, h.size, fun k hk => h.blk k hk⟩

/-- An aggregate's value. -/
theorem RV_of_agg {S : Seal} {h : Heap} {d : DV} {v : Value} {cs : List DV} (hd : d = .agg cs) (hv : ∃ vs, v = .agg vs) (hr : RC S h d v.cells.toList) : RV S h d v := by
  subst hd
  obtain ⟨vs, rfl⟩ := hv
  simp only [RC] at hr
  simp only [RV]
  exact ⟨vs, rfl, hr⟩

theorem agg_of_ok {P : Program} {w : World} {r : Reach} {b : Nat} {t : TypeId} {v : Value} {fs : Array Field} (ht : P.underlying t = some (.struct fs)) (h : Value.okWide P w r b t v) : ∃ vs, v = .agg vs := by
  unfold Value.okWide at h
  rw [ht] at h
  obtain ⟨cs, h, -⟩ := h
  exact ⟨cs, h⟩

set_option maxRecDepth 100000 in
theorem contract (H : Type) (enc : TypeId × Value → H) (W : World) (base : Nat) (args : Array Value) (ds gs : List (DataW H)) (before : List MemPlace)
    (hval : ∀ (j : Nat) t v, Try.f3.params[j]? = some t → args[j]? = some v → Value.okWide Try.prog W .any base t v)
    (hW : DataW.Whole enc Try.prog Try.f3.params.toList Rows.machNumsSpec.vars false W args.toList ds gs before) (hk : Rows.uptoSmall H (ds ++ gs) = true) :
    Calls Try.prog 3 args W fun e W' => ∃ v, e = .returned v ∧ Rows.machNumsSpec.post enc Try.prog Try.f3 false true false false W args v W' := by
  have hW' := hW
  have hlt := hW.lt
  obtain ⟨p, q, hA0, hV, rfl, hfz, hnd⟩ := hW
  have hA : DataW.TrodAll enc Try.prog W 0 (fun _ => true) true Try.f3.params.toList args.toList ds p := hA0
  rw [Try.params3] at hA hval
  obtain ⟨v0, v1, v2, d0, d1, d2, p0, p1, p2, rfl, rfl, rfl, h0, h1, h2⟩ := trodAll_three hA
  obtain ⟨rfl, rfl⟩ := trodVars_none hV
  have hbulk : bulkW d0 + bulkW d1 + bulkW d2 ≤ 1048576 := by
    have := of_decide_eq_true hk
    simp only [List.append_nil, Rows.uptoBulkAll, bulk_eq] at this
    omega
  obtain ⟨n0, k0⟩ := h0
  obtain ⟨n1, k1⟩ := h1
  obtain ⟨n2, k2⟩ := h2
  obtain ⟨x0, r0, w0, b0⟩ := rd_int Try.underlying2 k0
  obtain ⟨x1, r1, w1, b1⟩ := rd_int Try.underlying2 k1
  obtain ⟨x2, r2, w2, b2⟩ := rd_int Try.underlying3 k2
  have hl := law_nums x0 x1 x2 (wf64 w0) (wf64 w1)
  have hp := ((run_ok cfg_ok).p _ _ _ hl).2
  have g0 := RV_of_int Try.underlying2 (hval 0 2 v0 rfl rfl) r0
  have g1 := RV_of_int Try.underlying2 (hval 1 2 v1 rfl rfl) r1
  have g2 := RV_of_int Try.underlying3 (hval 2 3 v2 rfl rfl) r2
  have hold : ∀ b o, W.heap.size ≤ b → ¬ Old W b o := fun b o hb hs => Nat.not_lt.2 hb hs
  have hargs : RVs (Old W) W.heap [.int .i64 x0, .int .i64 x1, .int .i64 x2] [v0, v1, v2] := by
    simp only [RVs]
    exact ⟨v0, _, rfl, g0, v1, _, rfl, g1, v2, _, rfl, g2, rfl⟩
  have hc : Calls Try.prog 3 #[v0, v1, v2] W _ := hp (Old W) W [v0, v1, v2] hold hargs
  refine hc.mono fun e W' ⟨v, S', he, hx, hv, ho⟩ => ?_
  simp only [RV] at hv
  subst he hv
  have hb := below_of hx ho
  refine ⟨_, rfl, [d0, d1, d2], [], _, [], p0 ++ (p1 ++ p2), [], hW', ?_, ?_, rfl, hb.frame _, fun h => by cases h⟩
  · exact trodAll_mk1 (shut_bool Try.underlying4 _)
  · have m0 : ∀ x ∈ p0, x.block < W.heap.size := fun x hx => hlt x (by simp [hx])
    have m1 : ∀ x ∈ p1, x.block < W.heap.size := fun x hx => hlt x (by simp [hx])
    have m2 : ∀ x ∈ p2, x.block < W.heap.size := fun x hx => hlt x (by simp [hx])
    rw [Try.params3]
    exact trodAll_mk3 (Below.trod laidOut (by kernel_rfl) (of_decide_eq_true (by kernel_rfl)) ⟨n0, k0⟩ hb m0) (Below.trod laidOut (by kernel_rfl) (of_decide_eq_true (by kernel_rfl)) ⟨n1, k1⟩ hb m1) (Below.trod laidOut (by kernel_rfl) (of_decide_eq_true (by kernel_rfl)) ⟨n2, k2⟩ hb m2)

set_option maxRecDepth 100000 in
theorem lifted (os : Os) (started : os.Started) (H : Type) (enc : TypeId × Value → H) (F : Stop.Interp) :
    ReturnsInHanded {} Try.checked os 3 .any ((Rows.OpenSpec.upto Rows.machNumsSpec).pre6 enc Try.prog Try.f3 Rows.machNumsUptoRow.domain false) (((Rows.OpenSpec.upto Rows.machNumsSpec).at F).post enc Try.prog Try.f3 false true false false) := by
  refine returnsInHanded_of_cond (C := Try.checked) (s := Rows.OpenSpec.upto Rows.machNumsSpec) (k := Rows.uptoSmall) rfl own started (by kernel_rfl) Try.func3
    (OpenSpec.witness (enc := enc) (C := Try.checked) (s := Rows.OpenSpec.upto Rows.machNumsSpec) (k := Rows.uptoSmall) rfl false ⟨#[], #[((Try.prog.info? 2).bind (·.zero)).getD undef, ((Try.prog.info? 2).bind (·.zero)).getD undef, ((Try.prog.info? 3).bind (·.zero)).getD undef], []⟩ 8 (by kernel_rfl) (by kernel_rfl) (by kernel_rfl)
      (x := ([.lit (.int .i64 0), .lit (.int .i64 0), .lit (.int .i64 0)], [], [])) (by kernel_rfl) rfl (by kernel_rfl)) ?_
  intro W base args ds gs before hval hW _ hk _
  exact contract H enc W base args ds gs before hval hW hk

theorem o1 : Try.pinned.checked.prog.funcNamed Rows.machNumsUptoRow.func = some 3 := by kernel_rfl
theorem o2 : joinedFacts Try.pinned.checked.prog 3 Try.f3 (Rows.OpenSpec.upto Rows.machNumsSpec).bare Rows.machNumsUptoRow = true := by kernel_rfl
theorem o3 : Try.f3.isInstance Try.pinned.checked.prog Rows.machNumsUptoRow.origin Rows.machNumsUptoRow.targs := of_decide_eq_true (by kernel_rfl)
theorem o4 : Try.f3.isWrapper Try.pinned.checked.prog Rows.machNumsUptoRow.wrapper Rows.machNumsUptoRow.mainSum := by unfold Func.isWrapper; first | (rw [if_pos (by decide +kernel)]; kernel_rfl) | (rw [if_neg (by decide +kernel)]; exact ⟨rfl, rfl⟩)
theorem over : Rows.machNumsUptoRow.holds Try.pinned (Rows.OpenSpec.upto Rows.machNumsSpec) :=
  OpenClaim.holds_of_cond 3 Try.f3 rfl rfl rfl rfl rfl rfl rfl ⟨rfl, rfl, rfl, rfl, rfl⟩ rfl rfl rfl rfl rfl o1 Try.func3 o2 o3 o4
    (fun os started H enc _ F => lifted os started H enc F)

theorem proved : Rows.MachNumsUptoSaid := over
end Go.Proofs.Ytcfhnpbkdclodaa
