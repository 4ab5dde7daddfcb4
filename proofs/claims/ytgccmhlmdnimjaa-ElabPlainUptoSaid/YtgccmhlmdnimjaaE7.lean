/-
  The law ElabPlain answers true, whatever the input that holds at most 1048576 values and letters, and leaves it as it was.
  (The law's own answer on plain data is shown in the texts before; here it is joined with the given row.)
-/
import Derived.Carry
import Derived.JoinedCond
import Derived.OpenShut
import Derived.ProofKit
import Derived.Test.YtgccmhlmdnimjaaRows
import Derived.WalkKit
import Derived.Test.YtgccmhlmdnimjaaE4
import Derived.Test.YtgccmhlmdnimjaaE6
set_option linter.unusedVariables false
set_option linter.unusedSimpArgs false
namespace Go.Proofs.Ytgccmhlmdnimjaa
open Go.ChangeShapes Go.WideShapes Go.ChangeAt Go.RowKit Go.Su
set_option linter.unusedVariables false

mutual
theorem bulk_eq {H : Type} : ∀ d : DataW H, Rows.uptoBulk d = bulkW d
  | .lit l => by cases l <;> simp [Rows.uptoBulk, bulkW]
  | .nil => by simp [Rows.uptoBulk, bulkW]
  | .ptr d => by simp [Rows.uptoBulk, bulkW, bulk_eq d]
  | .slice a b => by simp [Rows.uptoBulk, bulkW, bulks_eq a, bulks_eq b]
  | .agg a => by simp [Rows.uptoBulk, bulkW, bulks_eq a]
  | .iface _ d => by simp [Rows.uptoBulk, bulkW, bulk_eq d]
  | .map es => by simp [Rows.uptoBulk, bulkW, bulkes_eq es]
  | .held _ => by simp [Rows.uptoBulk, bulkW]
theorem bulks_eq {H : Type} : ∀ l : List (DataW H), Rows.uptoBulkAll l = bulkAll l
  | [] => by simp [Rows.uptoBulkAll, bulkAll]
  | d :: l => by simp [Rows.uptoBulkAll, bulkAll, bulk_eq d, bulks_eq l]
theorem bulkes_eq {H : Type} : ∀ l : List (Lit × DataW H), Rows.uptoBulkEntries l = bulkEntries l
  | [] => by simp [Rows.uptoBulkEntries, bulkEntries]
  | x :: l => by simp [Rows.uptoBulkEntries, bulkEntries, bulke_eq x, bulkes_eq l]
theorem bulke_eq {H : Type} : ∀ x : Lit × DataW H, Rows.uptoBulkEntry x = bulkEntry x
  | (l, d) => by cases l <;> simp [Rows.uptoBulkEntry, bulkEntry, bulk_eq d]
end

theorem own : ownKnob Try.prog.godebug = none := by kernel_rfl
theorem laidOut : laidOutB Try.prog = true := by kernel_rfl
set_option maxRecDepth 100000 in
theorem i3 : IntAt Try.prog 3 := ⟨Try.underlying3, by kernel_rfl⟩
set_option maxRecDepth 100000 in
theorem atTy : TyAt Try.prog 27 := ⟨_, _, _, Try.underlying27, by kernel_rfl, ⟨i3, rfl⟩, ⟨i3, rfl⟩, ⟨⟨Try.underlying25, by kernel_rfl⟩, rfl⟩⟩
set_option maxRecDepth 100000 in
theorem in24 : IntsAt Try.prog 24 := ⟨3, ⟨Try.underlying24, by kernel_rfl⟩, i3⟩
set_option maxRecDepth 100000 in
theorem atDeriv : DerivAt Try.prog 46 := ⟨_, _, _, Try.underlying46, by kernel_rfl, ⟨⟨27, ⟨Try.underlying25, by kernel_rfl⟩, atTy⟩, rfl⟩, ⟨in24, rfl⟩, ⟨⟨Try.underlying44, by kernel_rfl⟩, rfl⟩⟩
theorem below_of {w w' : World} {S S' : Seal} (h : Ext S w.heap S' w'.heap) (o : Outer w w') : Below w.heap.size w w' :=
  ⟨o.os, o.tape, o.output, h.size, fun k hk => h.blk k hk⟩

/-- An aggregate's value. -/
theorem RV_of_agg {S : Seal} {h : Heap} {d : DV} {v : Value} {cs : List DV} (hd : d = .agg cs) (hv : ∃ vs, v = .agg vs) (hr : RC S h d v.cells.toList) : RV S h d v := by
  subst hd
  obtain ⟨vs, rfl⟩ := hv
  simp only [RC] at hr
  simp only [RV]
  exact ⟨vs, rfl, hr⟩

theorem agg_of_ok {P : Program} {w : World} {r : Reach} {b : Nat} {t : TypeId} {v : Value} {fs : Array Field} (ht : P.underlying t = some (.struct fs)) (h : Value.okWide P w r b t v) : ∃ vs, v = .agg vs := by
  unfold Value.okWide at h
  rw [ht] at h
  obtain ⟨cs, h, -⟩ := h
  exact ⟨cs, h⟩

set_option maxRecDepth 100000 in
theorem contract (H : Type) (enc : TypeId × Value → H) (W : World) (base : Nat) (args : Array Value) (ds gs : List (DataW H)) (before : List MemPlace)
    (hval : ∀ (j : Nat) t v, Try.f5.params[j]? = some t → args[j]? = some v → Value.okWide Try.prog W .any base t v)
    (hW : DataW.Whole enc Try.prog Try.f5.params.toList Rows.elabPlainSpec.vars false W args.toList ds gs before) (hk : Rows.uptoSmall H (ds ++ gs) = true) :
    Calls Try.prog 5 args W fun e W' => ∃ v, e = .returned v ∧ Rows.elabPlainSpec.post enc Try.prog Try.f5 false true false false W args v W' := by
  have hW' := hW
  have hlt := hW.lt
  obtain ⟨p, q, hA0, hV, rfl, hfz, hnd⟩ := hW
  have hA : DataW.TrodAll enc Try.prog W 0 (fun _ => true) true Try.f5.params.toList args.toList ds p := hA0
  rw [Try.params5] at hA hval
  obtain ⟨v0, d0, rfl, rfl, h0⟩ := trodAll_one hA
  obtain ⟨rfl, rfl⟩ := trodVars_none hV
  have hbulk : bulkW d0 ≤ 1048576 := by
    have := of_decide_eq_true hk
    simp only [List.append_nil, Rows.uptoBulkAll, bulk_eq] at this
    omega
  obtain ⟨n0, k0⟩ := h0
  obtain ⟨x0, r0, b0⟩ := rd_Deriv atDeriv n0 _ _ k0
  have hl := law_plain x0 (by simp only at b0; omega)
  have hp := ((run_ok cfg_ok).p _ _ _ hl).2
  have g0 := RV_of_agg (Deriv.enc_eq x0) (agg_of_ok Try.underlying46 (hval 0 46 v0 rfl rfl)) r0
  have hold : ∀ b o, W.heap.size ≤ b → ¬ Old W b o := fun b o hb hs => Nat.not_lt.2 hb hs
  have hargs : RVs (Old W) W.heap [x0.enc] [v0] := by
    simp only [RVs]
    exact ⟨v0, _, rfl, g0, rfl⟩
  have hc : Calls Try.prog 5 #[v0] W _ := hp (Old W) W [v0] hold hargs
  refine hc.mono fun e W' ⟨v, S', he, hx, hv, ho⟩ => ?_
  simp only [RV] at hv
  subst he hv
  have hb := below_of hx ho
  refine ⟨_, rfl, [d0], [], _, [], p, [], hW', ?_, ?_, rfl, hb.frame _, fun h => by cases h⟩
  · exact trodAll_mk1 (shut_bool Try.underlying4 _)
  · have m0 : ∀ x ∈ p, x.block < W.heap.size := fun x hx => hlt x (by simp [hx])
    rw [Try.params5]
    exact trodAll_mk1 (Below.trod laidOut (by kernel_rfl) (of_decide_eq_true (by kernel_rfl)) ⟨n0, k0⟩ hb m0)

set_option maxRecDepth 100000 in
theorem lifted (os : Os) (started : os.Started) (H : Type) (enc : TypeId × Value → H) (F : Stop.Interp) :
    ReturnsInHanded {} Try.checked os 5 .any ((Rows.OpenSpec.upto Rows.elabPlainSpec).pre6 enc Try.prog Try.f5 Rows.elabPlainUptoRow.domain false) (((Rows.OpenSpec.upto Rows.elabPlainSpec).at F).post enc Try.prog Try.f5 false true false false) := by
  refine returnsInHanded_of_cond (C := Try.checked) (s := Rows.OpenSpec.upto Rows.elabPlainSpec) (k := Rows.uptoSmall) rfl own started (by kernel_rfl) Try.func5
    (OpenSpec.witness (enc := enc) (C := Try.checked) (s := Rows.OpenSpec.upto Rows.elabPlainSpec) (k := Rows.uptoSmall) rfl false ⟨#[], #[((Try.prog.info? 46).bind (·.zero)).getD undef], []⟩ 8 (by kernel_rfl) (by kernel_rfl) (by kernel_rfl)
      (x := ([.agg [.nil, .nil, .nil]], [], [])) (by kernel_rfl) rfl (by kernel_rfl)) ?_
  intro W base args ds gs before hval hW _ hk _
  exact contract H enc W base args ds gs before hval hW hk

theorem over : Rows.elabPlainUptoRow.holds Try.pinned (Rows.OpenSpec.upto Rows.elabPlainSpec) :=
  OpenClaim.holds_of_cond 5 Try.f5 rfl rfl rfl rfl rfl rfl rfl ⟨rfl, rfl, rfl, rfl, rfl⟩ rfl rfl rfl rfl rfl (by kernel_rfl) Try.func5 (by kernel_rfl)
    (of_decide_eq_true (by kernel_rfl)) (by unfold Func.isWrapper; first | (rw [if_pos (by decide +kernel)]; kernel_rfl) | (rw [if_neg (by decide +kernel)]; exact ⟨rfl, rfl⟩))
    (fun os started H enc _ F => lifted os started H enc F)

theorem proved : Rows.ElabPlainUptoSaid := over
end Go.Proofs.Ytgccmhlmdnimjaa
