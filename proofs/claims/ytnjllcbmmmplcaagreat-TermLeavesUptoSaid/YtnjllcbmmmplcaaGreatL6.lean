/-
  Parts of the proof, merged: G5, T0, Q, LTermLeaves.
-/
import Derived.Test.YtnjllcbmmmplcaaGreatL3
import Derived.Test.YtnjllcbmmmplcaaGreatL4
import Derived.Test.YtnjllcbmmmplcaaGreatL5
set_option linter.unusedVariables false
set_option linter.unusedSimpArgs false
/-
  Equations of the program's functions: by program.
-/
namespace Go.Su
open Go.Proofs
set_option linter.unusedVariables false

/-! ### term_typed -/
noncomputable def code_term_typed : Code := Tryz.f89.body.getD .skip
noncomputable def P_term_typed (R : Orc) (x0 : DV) (x1 : DV) : Option DV := evP cfg R fl_term_typed (retP cfg.P Tryz.f89) [] code_term_typed (initSt Tryz.f89 [(x0, .val), (x1, .val)] [])
theorem eq_term_typed (R : Orc) (x0 : DV) (x1 : DV) : P_term_typed R x0 x1 =
  (og (isAggN 3 x1) <|
  oif x0
   (ob (R.p F_typ_Check [(.agg [(proj 0 x1), (proj 1 x1), (proj 2 x1)])]) fun d1 =>
   ob (dBin .eql d1 (.int .i64 0)) fun d2 =>
   some d2)
   (ob (R.p F_term_none [(.agg [(proj 0 x1), (proj 1 x1), (proj 2 x1)])]) fun d3 =>
   some d3)) := evP_of [] (by kernel_rfl)
theorem fix_term_typed (x0 : DV) (x1 : DV) : (run cfg).p F_term_typed [x0, x1] = P_term_typed (run cfg) x0 x1 :=
  (fix_pure (C := cfg) (f := F_term_typed) (fn := Tryz.f89) (c := code_term_typed) (by kernel_rfl) Tryz.func89 (by kernel_rfl)).trans (by kernel_rfl)
theorem call_term_typed (x0 : DV) (x1 : DV) {d : DV} (h : P_term_typed (run cfg) x0 x1 = some d) : (run cfg).p F_term_typed [x0, x1] = some d := (fix_term_typed x0 x1).trans h

/-! ### term_lists -/
noncomputable def code_term_lists : Code := Tryz.f90.body.getD .skip
noncomputable def P_term_lists (R : Orc) (x0 : DV) : Option DV := evP cfg R fl_term_lists (retP cfg.P Tryz.f90) [] code_term_lists (initSt Tryz.f90 [(x0, .val)] [])
noncomputable def P_term_lists_2h (R : Orc) (t10 : DV) (t11 : DV) (t12 : DV) (b1 : DV) : Option DV := headP cfg R fl_term_lists (retP cfg.P Tryz.f90) [true, false, true, false] code_term_lists ⟨spread .undef 45 0 [(10, t10), (11, t11), (12, t12)], spread .val 45 0 [(1, (.loc 1 0))], spread none 45 0 [(1, some [((proj 0 b1), .val), ((proj 1 b1), .val), ((proj 2 b1), .val), ((proj 3 b1), .val), ((proj 4 b1), .val), ((proj 5 b1), .val), ((proj 6 b1), .val), ((proj 7 b1), .val), ((proj 8 b1), .val), ((proj 9 b1), .val), ((proj 10 b1), .val), ((proj 11 b1), .val), ((proj 12 b1), .val), ((proj 13 b1), .val), ((proj 14 b1), .val), ((proj 15 b1), .val), ((proj 16 b1), .val), ((proj 17 b1), .val), ((proj 18 b1), .val), ((proj 19 b1), .val)])], []⟩
noncomputable def P_term_lists_8h (R : Orc) (t24 : DV) (t25 : DV) (t26 : DV) (b1 : DV) : Option DV := headP cfg R fl_term_lists (retP cfg.P Tryz.f90) [true, true, false, true, false] code_term_lists ⟨spread .undef 45 0 [(24, t24), (25, t25), (26, t26)], spread .val 45 0 [(1, (.loc 1 0))], spread none 45 0 [(1, some [((proj 0 b1), .val), ((proj 1 b1), .val), ((proj 2 b1), .val), ((proj 3 b1), .val), ((proj 4 b1), .val), ((proj 5 b1), .val), ((proj 6 b1), .val), ((proj 7 b1), .val), ((proj 8 b1), .val), ((proj 9 b1), .val), ((proj 10 b1), .val), ((proj 11 b1), .val), ((proj 12 b1), .val), ((proj 13 b1), .val), ((proj 14 b1), .val), ((proj 15 b1), .val), ((proj 16 b1), .val), ((proj 17 b1), .val), ((proj 18 b1), .val), ((proj 19 b1), .val)])], []⟩
noncomputable def P_term_lists_14h (R : Orc) (t35 : DV) (t36 : DV) (t37 : DV) : Option DV := headP cfg R fl_term_lists (retP cfg.P Tryz.f90) [true, true, true, false, true, false] code_term_lists ⟨spread .undef 45 0 [(35, t35), (36, t36), (37, t37)], spread .val 45 0 [], spread none 45 0 [], []⟩
theorem eq_term_lists (R : Orc) (x0 : DV) : P_term_lists R x0 =
  (og (isAggN 20 x0) <|
  ob (dLen (proj 10 x0)) fun d1 =>
  P_term_lists_2h R (proj 10 x0) d1 (.int .i64 0) x0) := evP_of [] (by kernel_rfl)
theorem eq_term_lists_2h (R : Orc) (t10 : DV) (t11 : DV) (t12 : DV) (b1 : DV) : P_term_lists_2h R t10 t11 t12 b1 =
  (ob (dBin .lss t12 t11) fun d1 =>
  oif d1
   (ob (dIdx 1 t10 t12) fun d2 =>
   og (isLeaf d2) <|
   ob (dBin .lss d2 (.int .i64 0)) fun d3 =>
   ogd d3
    (some (.bool false))
    (ob (dBin .gtr d2 (.int .i64 1048576)) fun d4 =>
    oif d4
     (some (.bool false))
     (ob (dBin .add t12 (.int .i64 1)) fun d5 =>
     P_term_lists_2h R t10 t11 d5 b1))
    none)
   (ob (dLen (proj 17 b1)) fun d6 =>
   P_term_lists_8h R (proj 17 b1) d6 (.int .i64 0) b1)) := headP_of [] (by kernel_rfl)
theorem eq_term_lists_8h (R : Orc) (t24 : DV) (t25 : DV) (t26 : DV) (b1 : DV) : P_term_lists_8h R t24 t25 t26 b1 =
  (ob (dBin .lss t26 t25) fun d1 =>
  oif d1
   (ob (dIdx 3 t24 t26) fun d2 =>
   ob (R.p F_typ_Check [(.agg [(proj 0 d2), (proj 1 d2), (proj 2 d2)])]) fun d3 =>
   ob (dBin .neq d3 (.int .i64 0)) fun d4 =>
   oif d4
    (some (.bool false))
    (ob (dBin .add t26 (.int .i64 1)) fun d5 =>
    P_term_lists_8h R t24 t25 d5 b1))
   (ob (dLen (proj 18 b1)) fun d6 =>
   P_term_lists_14h R (proj 18 b1) d6 (.int .i64 0))) := headP_of [] (by kernel_rfl)
theorem eq_term_lists_14h (R : Orc) (t35 : DV) (t36 : DV) (t37 : DV) : P_term_lists_14h R t35 t36 t37 =
  (ob (dBin .lss t37 t36) fun d1 =>
  oif d1
   (ob (dIdx 7 t35 t37) fun d2 =>
   ob (R.p F_tree_CheckPat [(.agg [(proj 0 d2), (proj 1 d2), (proj 2 d2), (proj 3 d2), (proj 4 d2), (proj 5 d2), (proj 6 d2)])]) fun d3 =>
   ob (dBin .neq d3 (.int .i64 0)) fun d4 =>
   oif d4
    (some (.bool false))
    (ob (dBin .add t37 (.int .i64 1)) fun d5 =>
    P_term_lists_14h R t35 t36 d5))
   (some (.bool true))) := headP_of [] (by kernel_rfl)
theorem fix_term_lists (x0 : DV) : (run cfg).p F_term_lists [x0] = P_term_lists (run cfg) x0 :=
  (fix_pure (C := cfg) (f := F_term_lists) (fn := Tryz.f90) (c := code_term_lists) (by kernel_rfl) Tryz.func90 (by kernel_rfl)).trans (by kernel_rfl)
theorem call_term_lists (x0 : DV) {d : DV} (h : P_term_lists (run cfg) x0 = some d) : (run cfg).p F_term_lists [x0] = some d := (fix_term_lists x0).trans h

/-! ### r05_Same -/
noncomputable def code_r05_Same : Code := Tryz.f91.body.getD .skip
noncomputable def P_r05_Same (R : Orc) (x0 : DV) (x1 : DV) : Option DV := evP cfg R fl_r05_Same (retP cfg.P Tryz.f91) [] code_r05_Same (initSt Tryz.f91 [(x0, .val), (x1, .val)] [])
noncomputable def P_r05_Same_3 (R : Orc) (b2 : DV) (b3 : DV) : Option DV := evP cfg R fl_r05_Same (retP cfg.P Tryz.f91) [true, true] code_r05_Same ⟨spread .undef 117 0 [], spread .val 117 0 [(2, (.loc 2 0)), (3, (.loc 3 0))], spread none 117 0 [(2, some [((proj 0 b2), .val), ((proj 1 b2), .val), ((proj 2 b2), .val), ((proj 3 b2), .val), ((proj 4 b2), .val), ((proj 5 b2), .val), ((proj 6 b2), .val), ((proj 7 b2), .val), ((proj 8 b2), .val), ((proj 9 b2), .val), ((proj 10 b2), .val), ((proj 11 b2), .val), ((proj 12 b2), .val), ((proj 13 b2), .val), ((proj 14 b2), .val), ((proj 15 b2), .val)]), (3, some [((proj 0 b3), .val), ((proj 1 b3), .val), ((proj 2 b3), .val), ((proj 3 b3), .val), ((proj 4 b3), .val), ((proj 5 b3), .val), ((proj 6 b3), .val), ((proj 7 b3), .val), ((proj 8 b3), .val), ((proj 9 b3), .val), ((proj 10 b3), .val), ((proj 11 b3), .val), ((proj 12 b3), .val), ((proj 13 b3), .val), ((proj 14 b3), .val), ((proj 15 b3), .val)])], []⟩
noncomputable def P_r05_Same_6h (R : Orc) (t5 : DV) (b2 : DV) (b3 : DV) : Option DV := headP cfg R fl_r05_Same (retP cfg.P Tryz.f91) [true, true, true, false, true, false] code_r05_Same ⟨spread .undef 117 0 [(5, t5)], spread .val 117 0 [(2, (.loc 2 0)), (3, (.loc 3 0))], spread none 117 0 [(2, some [((proj 0 b2), .val), ((proj 1 b2), .val), ((proj 2 b2), .val), ((proj 3 b2), .val), ((proj 4 b2), .val), ((proj 5 b2), .val), ((proj 6 b2), .val), ((proj 7 b2), .val), ((proj 8 b2), .val), ((proj 9 b2), .val), ((proj 10 b2), .val), ((proj 11 b2), .val), ((proj 12 b2), .val), ((proj 13 b2), .val), ((proj 14 b2), .val), ((proj 15 b2), .val)]), (3, some [((proj 0 b3), .val), ((proj 1 b3), .val), ((proj 2 b3), .val), ((proj 3 b3), .val), ((proj 4 b3), .val), ((proj 5 b3), .val), ((proj 6 b3), .val), ((proj 7 b3), .val), ((proj 8 b3), .val), ((proj 9 b3), .val), ((proj 10 b3), .val), ((proj 11 b3), .val), ((proj 12 b3), .val), ((proj 13 b3), .val), ((proj 14 b3), .val), ((proj 15 b3), .val)])], []⟩
noncomputable def P_r05_Same_11h (R : Orc) (t6 : DV) (b2 : DV) (b3 : DV) : Option DV := headP cfg R fl_r05_Same (retP cfg.P Tryz.f91) [true, true, true, true, false, true, false] code_r05_Same ⟨spread .undef 117 0 [(6, t6)], spread .val 117 0 [(2, (.loc 2 0)), (3, (.loc 3 0))], spread none 117 0 [(2, some [((proj 0 b2), .val), ((proj 1 b2), .val), ((proj 2 b2), .val), ((proj 3 b2), .val), ((proj 4 b2), .val), ((proj 5 b2), .val), ((proj 6 b2), .val), ((proj 7 b2), .val), ((proj 8 b2), .val), ((proj 9 b2), .val), ((proj 10 b2), .val), ((proj 11 b2), .val), ((proj 12 b2), .val), ((proj 13 b2), .val), ((proj 14 b2), .val), ((proj 15 b2), .val)]), (3, some [((proj 0 b3), .val), ((proj 1 b3), .val), ((proj 2 b3), .val), ((proj 3 b3), .val), ((proj 4 b3), .val), ((proj 5 b3), .val), ((proj 6 b3), .val), ((proj 7 b3), .val), ((proj 8 b3), .val), ((proj 9 b3), .val), ((proj 10 b3), .val), ((proj 11 b3), .val), ((proj 12 b3), .val), ((proj 13 b3), .val), ((proj 14 b3), .val), ((proj 15 b3), .val)])], []⟩
set_option maxRecDepth 100000 in
theorem eq_r05_Same (R : Orc) (x0 : DV) (x1 : DV) : P_r05_Same R x0 x1 =
  (og (isAggN 16 x0) <|
  og (isAggN 16 x1) <|
  ob (dBin .neq (proj 0 x0) (proj 0 x1)) fun d1 =>
  ogd d1
   (some (.bool false))
   (ob (dBin .neq (proj 3 x0) (proj 3 x1)) fun d2 =>
   ogd d2
    (some (.bool false))
    (ob (dBin .neq (proj 4 x0) (proj 4 x1)) fun d3 =>
    ogd d3
     (some (.bool false))
     (ob (dBin .neq (proj 5 x0) (proj 5 x1)) fun d4 =>
     ogd d4
      (some (.bool false))
      (ob (dBin .neq (proj 6 x0) (proj 6 x1)) fun d5 =>
      ogd d5
       (some (.bool false))
       (ob (dBin .neq (proj 7 x0) (proj 7 x1)) fun d6 =>
       ogd d6
        (some (.bool false))
        (ob (dLen (proj 14 x0)) fun d7 =>
        ob (dLen (proj 14 x1)) fun d8 =>
        ob (dBin .neq d7 d8) fun d9 =>
        ogd d9
         (some (.bool false))
         (ob (dLen (proj 15 x0)) fun d10 =>
         ob (dLen (proj 15 x1)) fun d11 =>
         ob (dBin .neq d10 d11) fun d12 =>
         oif d12
          (some (.bool false))
          (P_r05_Same_3 R x0 x1))
         none)
        none)
       none)
      none)
     none)
    none)
   none) := evP_of [3] (by kernel_rfl)
theorem eq_r05_Same_3 (R : Orc) (b2 : DV) (b3 : DV) : P_r05_Same_3 R b2 b3 =
  (ob (R.p F_r03_Same [(.agg [(proj 8 b2), (proj 9 b2), (proj 10 b2)]), (.agg [(proj 8 b3), (proj 9 b3), (proj 10 b3)])]) fun d1 =>
  ob (dUn .not d1) fun d2 =>
  ogd d2
   (some (.bool false))
   (ob (R.p F_r03_Same [(.agg [(proj 11 b2), (proj 12 b2), (proj 13 b2)]), (.agg [(proj 11 b3), (proj 12 b3), (proj 13 b3)])]) fun d3 =>
   ob (dUn .not d3) fun d4 =>
   oif d4
    (some (.bool false))
    (P_r05_Same_6h R (.int .i64 0) b2 b3))
   none) := evP_of [3] (by kernel_rfl)
theorem eq_r05_Same_6h (R : Orc) (t5 : DV) (b2 : DV) (b3 : DV) : P_r05_Same_6h R t5 b2 b3 =
  (ob (dLen (proj 14 b2)) fun d1 =>
  ob (dBin .lss t5 d1) fun d2 =>
  oif d2
   (ob (dIdx 7 (proj 14 b2) t5) fun d3 =>
   ob (dIdx 7 (proj 14 b3) t5) fun d4 =>
   ob (R.p F_r05_SamePat [(.agg [(proj 0 d3), (proj 1 d3), (proj 2 d3), (proj 3 d3), (proj 4 d3), (proj 5 d3), (proj 6 d3)]), (.agg [(proj 0 d4), (proj 1 d4), (proj 2 d4), (proj 3 d4), (proj 4 d4), (proj 5 d4), (proj 6 d4)])]) fun d5 =>
   ob (dUn .not d5) fun d6 =>
   oif d6
    (some (.bool false))
    (ob (dBin .add t5 (.int .i64 1)) fun d7 =>
    P_r05_Same_6h R d7 b2 b3))
   (P_r05_Same_11h R (.int .i64 0) b2 b3)) := headP_of [3] (by kernel_rfl)
theorem eq_r05_Same_11h (R : Orc) (t6 : DV) (b2 : DV) (b3 : DV) : P_r05_Same_11h R t6 b2 b3 =
  (ob (dLen (proj 15 b2)) fun d1 =>
  ob (dBin .lss t6 d1) fun d2 =>
  oif d2
   (ob (dIdx 16 (proj 15 b2) t6) fun d3 =>
   ob (dIdx 16 (proj 15 b3) t6) fun d4 =>
   ob (R.p F_r05_Same [(.agg [(proj 0 d3), (proj 1 d3), (proj 2 d3), (proj 3 d3), (proj 4 d3), (proj 5 d3), (proj 6 d3), (proj 7 d3), (proj 8 d3), (proj 9 d3), (proj 10 d3), (proj 11 d3), (proj 12 d3), (proj 13 d3), (proj 14 d3), (proj 15 d3)]), (.agg [(proj 0 d4), (proj 1 d4), (proj 2 d4), (proj 3 d4), (proj 4 d4), (proj 5 d4), (proj 6 d4), (proj 7 d4), (proj 8 d4), (proj 9 d4), (proj 10 d4), (proj 11 d4), (proj 12 d4), (proj 13 d4), (proj 14 d4), (proj 15 d4)])]) fun d5 =>
   ob (dUn .not d5) fun d6 =>
   oif d6
    (some (.bool false))
    (ob (dBin .add t6 (.int .i64 1)) fun d7 =>
    P_r05_Same_11h R d7 b2 b3))
   (some (.bool true))) := headP_of [3] (by kernel_rfl)
theorem fix_r05_Same (x0 : DV) (x1 : DV) : (run cfg).p F_r05_Same [x0, x1] = P_r05_Same (run cfg) x0 x1 :=
  (fix_pure (C := cfg) (f := F_r05_Same) (fn := Tryz.f91) (c := code_r05_Same) (by kernel_rfl) Tryz.func91 (by kernel_rfl)).trans (by kernel_rfl)
theorem call_r05_Same (x0 : DV) (x1 : DV) {d : DV} (h : P_r05_Same (run cfg) x0 x1 = some d) : (run cfg).p F_r05_Same [x0, x1] = some d := (fix_r05_Same x0 x1).trans h

/-! ### r05_patAt -/
noncomputable def code_r05_patAt : Code := Tryz.f92.body.getD .skip
noncomputable def P_r05_patAt (R : Orc) (x0 : DV) (x1 : DV) : Option DV := evP cfg R fl_r05_patAt (retP cfg.P Tryz.f92) [] code_r05_patAt (initSt Tryz.f92 [(x0, .val), (x1, .val)] [])
noncomputable def P_r05_patAt_4h (R : Orc) (t5 : DV) (b2 : DV) (b3 : DV) : Option DV := headP cfg R fl_r05_patAt (retP cfg.P Tryz.f92) [true, true, false, true, false] code_r05_patAt ⟨spread .undef 30 0 [(5, t5)], spread .val 30 0 [(2, (.loc 2 0)), (3, (.loc 3 0))], spread none 30 0 [(2, some [((proj 0 b2), .val), ((proj 1 b2), .val), ((proj 2 b2), .val), ((proj 3 b2), .val), ((proj 4 b2), .val), ((proj 5 b2), .val), ((proj 6 b2), .val)]), (3, some [((proj 0 b3), .val), ((proj 1 b3), .val), ((proj 2 b3), .val), ((proj 3 b3), .val), ((proj 4 b3), .val), ((proj 5 b3), .val), ((proj 6 b3), .val)])], []⟩
theorem eq_r05_patAt (R : Orc) (x0 : DV) (x1 : DV) : P_r05_patAt R x0 x1 =
  (og (isAggN 7 x0) <|
  og (isAggN 7 x1) <|
  ob (dEqA [.int, .int] (.agg [(proj 1 x0), (proj 2 x0)]) (.agg [(proj 1 x1), (proj 2 x1)])) fun b1 =>
  oif (.bool !b1)
   (some (.bool false))
   (P_r05_patAt_4h R (.int .i64 0) x0 x1)) := evP_of [] (by kernel_rfl)
theorem eq_r05_patAt_4h (R : Orc) (t5 : DV) (b2 : DV) (b3 : DV) : P_r05_patAt_4h R t5 b2 b3 =
  (ob (dLen (proj 6 b2)) fun d1 =>
  ob (dBin .lss t5 d1) fun d2 =>
  oif d2
   (ob (dIdx 7 (proj 6 b2) t5) fun d3 =>
   ob (dIdx 7 (proj 6 b3) t5) fun d4 =>
   ob (R.p F_r05_patAt [(.agg [(proj 0 d3), (proj 1 d3), (proj 2 d3), (proj 3 d3), (proj 4 d3), (proj 5 d3), (proj 6 d3)]), (.agg [(proj 0 d4), (proj 1 d4), (proj 2 d4), (proj 3 d4), (proj 4 d4), (proj 5 d4), (proj 6 d4)])]) fun d5 =>
   ob (dUn .not d5) fun d6 =>
   oif d6
    (some (.bool false))
    (ob (dBin .add t5 (.int .i64 1)) fun d7 =>
    P_r05_patAt_4h R d7 b2 b3))
   (some (.bool true))) := headP_of [] (by kernel_rfl)
theorem fix_r05_patAt (x0 : DV) (x1 : DV) : (run cfg).p F_r05_patAt [x0, x1] = P_r05_patAt (run cfg) x0 x1 :=
  (fix_pure (C := cfg) (f := F_r05_patAt) (fn := Tryz.f92) (c := code_r05_patAt) (by kernel_rfl) Tryz.func92 (by kernel_rfl)).trans (by kernel_rfl)
theorem call_r05_patAt (x0 : DV) (x1 : DV) {d : DV} (h : P_r05_patAt (run cfg) x0 x1 = some d) : (run cfg).p F_r05_patAt [x0, x1] = some d := (fix_r05_patAt x0 x1).trans h

/-! ### term_patNames -/
noncomputable def code_term_patNames : Code := Tryz.f93.body.getD .skip
noncomputable def P_term_patNames (R : Orc) (x0 : DV) (x1 : DV) (sg : List SObj) : Option (List DV × List SObj) := evP cfg R fl_term_patNames (retR cfg.P Tryz.f93 sig_term_patNames) [] code_term_patNames (initSt Tryz.f93 [(x0, .val), (x1, .own)] sg)
noncomputable def P_term_patNames_4h (R : Orc) (t1 : DV) (t16 : DV) (t17 : DV) (t18 : DV) (sg : List SObj) : Option (List DV × List SObj) := headP cfg R fl_term_patNames (retR cfg.P Tryz.f93 sig_term_patNames) [true, true, false, true, false] code_term_patNames ⟨spread .undef 27 0 [(1, t1), (16, t16), (17, t17), (18, t18)], spread .val 27 0 [(1, .own)], spread none 27 0 [], sg⟩
theorem eq_term_patNames (R : Orc) (x0 : DV) (x1 : DV) (sg : List SObj) : P_term_patNames R x0 x1 sg =
  (og (isAggN 7 x0) <|
  ob (dBin .eql (proj 0 x0) (.int .i64 2)) fun d1 =>
  oif d1
   (og (isCell (proj 3 x0)) <|
   ob (dApp 1 x1 (.list 1 [(proj 3 x0)])) fun d2 =>
   ob (dLen (proj 6 x0)) fun d3 =>
   P_term_patNames_4h R d2 (proj 6 x0) d3 (.int .i64 0) sg)
   (ob (dLen (proj 6 x0)) fun d4 =>
   P_term_patNames_4h R x1 (proj 6 x0) d4 (.int .i64 0) sg)) := evP_of [] (by kernel_rfl)
theorem eq_term_patNames_4h (R : Orc) (t1 : DV) (t16 : DV) (t17 : DV) (t18 : DV) (sg : List SObj) : P_term_patNames_4h R t1 t16 t17 t18 sg =
  (ob (dBin .lss t18 t17) fun d1 =>
  oif d1
   (ob (dIdx 7 t16 t18) fun d2 =>
   ob (R.r F_term_patNames [((.agg [(proj 0 d2), (proj 1 d2), (proj 2 d2), (proj 3 d2), (proj 4 d2), (proj 5 d2), (proj 6 d2)]), .val), (t1, .own)] sg) fun q3 =>
   ob (dBin .add t18 (.int .i64 1)) fun d4 =>
   P_term_patNames_4h R (q3.1.getD 0 .undef) t16 t17 d4 q3.2)
   (some ([t1], sg))) := headP_of [] (by kernel_rfl)
theorem fix_term_patNames (x0 : DV) (x1 : DV) (sg : List SObj) : (run cfg).r F_term_patNames [(x0, .val), (x1, .own)] sg = P_term_patNames (run cfg) x0 x1 sg :=
  (fix_raw (C := cfg) (f := F_term_patNames) (s := sig_term_patNames) (fn := Tryz.f93) (c := code_term_patNames) (by kernel_rfl) Tryz.func93 (by kernel_rfl)).trans (by kernel_rfl)
theorem call_term_patNames (x0 : DV) (x1 : DV) (sg : List SObj) {q : List DV × List SObj} (h : P_term_patNames (run cfg) x0 x1 sg = some q) : (run cfg).r F_term_patNames [(x0, .val), (x1, .own)] sg = some q := (fix_term_patNames x0 x1 sg).trans h

/-! ### slices_Contains__string_string -/
noncomputable def code_slices_Contains__string_string : Code := Tryz.f105.body.getD .skip
noncomputable def P_slices_Contains__string_string (R : Orc) (x0 : DV) (x1 : DV) : Option DV := evP cfg R fl_slices_Contains__string_string (retP cfg.P Tryz.f105) [] code_slices_Contains__string_string (initSt Tryz.f105 [(x0, .val), (x1, .val)] [])
theorem eq_slices_Contains__string_string (R : Orc) (x0 : DV) (x1 : DV) : P_slices_Contains__string_string R x0 x1 =
  (ob (R.p F_slices_Index__string_string [x0, x1]) fun d1 =>
  ob (dBin .geq d1 (.int .i64 0)) fun d2 =>
  some d2) := evP_of [] (by kernel_rfl)
theorem fix_slices_Contains__string_string (x0 : DV) (x1 : DV) : (run cfg).p F_slices_Contains__string_string [x0, x1] = P_slices_Contains__string_string (run cfg) x0 x1 :=
  (fix_pure (C := cfg) (f := F_slices_Contains__string_string) (fn := Tryz.f105) (c := code_slices_Contains__string_string) (by kernel_rfl) Tryz.func105 (by kernel_rfl)).trans (by kernel_rfl)
theorem call_slices_Contains__string_string (x0 : DV) (x1 : DV) {d : DV} (h : P_slices_Contains__string_string (run cfg) x0 x1 = some d) : (run cfg).p F_slices_Contains__string_string [x0, x1] = some d := (fix_slices_Contains__string_string x0 x1).trans h

/-! ### r01_digit -/
noncomputable def code_r01_digit : Code := Tryz.f106.body.getD .skip
noncomputable def P_r01_digit (R : Orc) (x0 : DV) : Option DV := evP cfg R fl_r01_digit (retP cfg.P Tryz.f106) [] code_r01_digit (initSt Tryz.f106 [(x0, .val)] [])
theorem eq_r01_digit (R : Orc) (x0 : DV) : P_r01_digit R x0 =
  (ob (dBin .geq x0 (.int .u8 48)) fun d1 =>
  ogd d1
   (ob (dBin .leq x0 (.int .u8 57)) fun d2 =>
   some d2)
   (some (.bool false))
   none) := evP_of [] (by kernel_rfl)
theorem fix_r01_digit (x0 : DV) : (run cfg).p F_r01_digit [x0] = P_r01_digit (run cfg) x0 :=
  (fix_pure (C := cfg) (f := F_r01_digit) (fn := Tryz.f106) (c := code_r01_digit) (by kernel_rfl) Tryz.func106 (by kernel_rfl)).trans (by kernel_rfl)
theorem call_r01_digit (x0 : DV) {d : DV} (h : P_r01_digit (run cfg) x0 = some d) : (run cfg).p F_r01_digit [x0] = some d := (fix_r01_digit x0).trans h

/-! ### l03_count -/
noncomputable def code_l03_count : Code := Tryz.f107.body.getD .skip
noncomputable def P_l03_count (R : Orc) (x0 : DV) (x1 : DV) : Option DV := evP cfg R fl_l03_count (retP cfg.P Tryz.f107) [] code_l03_count (initSt Tryz.f107 [(x0, .val), (x1, .val)] [])
noncomputable def P_l03_count_3h (R : Orc) (t1 : DV) (t5 : DV) (b2 : DV) : Option DV := headP cfg R fl_l03_count (retP cfg.P Tryz.f107) [true, true, false, true, false] code_l03_count ⟨spread .undef 27 0 [(1, t1), (5, t5)], spread .val 27 0 [(2, (.loc 2 0))], spread none 27 0 [(2, some [((proj 0 b2), .val), ((proj 1 b2), .val), ((proj 2 b2), .val)])], []⟩
theorem eq_l03_count (R : Orc) (x0 : DV) (x1 : DV) : P_l03_count R x0 x1 =
  (og (isAggN 3 x0) <|
  ob (dBin .add x1 (.int .i64 1)) fun d1 =>
  P_l03_count_3h R d1 (.int .i64 0) x0) := evP_of [] (by kernel_rfl)
theorem eq_l03_count_3h (R : Orc) (t1 : DV) (t5 : DV) (b2 : DV) : P_l03_count_3h R t1 t5 b2 =
  (ob (dLen (proj 2 b2)) fun d1 =>
  ob (dBin .lss t5 d1) fun d2 =>
  ogd d2
   (ob (dBin .leq t1 (.int .i64 600)) fun d3 =>
   oif d3
    (ob (dIdx 3 (proj 2 b2) t5) fun d4 =>
    ob (R.p F_l03_count [(.agg [(proj 0 d4), (proj 1 d4), (proj 2 d4)]), t1]) fun d5 =>
    ob (dBin .add t5 (.int .i64 1)) fun d6 =>
    P_l03_count_3h R d5 d6 b2)
    (some t1))
   (some t1)
   none) := headP_of [] (by kernel_rfl)
theorem fix_l03_count (x0 : DV) (x1 : DV) : (run cfg).p F_l03_count [x0, x1] = P_l03_count (run cfg) x0 x1 :=
  (fix_pure (C := cfg) (f := F_l03_count) (fn := Tryz.f107) (c := code_l03_count) (by kernel_rfl) Tryz.func107 (by kernel_rfl)).trans (by kernel_rfl)
theorem call_l03_count (x0 : DV) (x1 : DV) {d : DV} (h : P_l03_count (run cfg) x0 x1 = some d) : (run cfg).p F_l03_count [x0, x1] = some d := (fix_l03_count x0 x1).trans h

/-! ### r03_vars -/
noncomputable def code_r03_vars : Code := Tryz.f108.body.getD .skip
noncomputable def P_r03_vars (R : Orc) (x0 : DV) (x1 : DV) (sg : List SObj) : Option (List DV × List SObj) := evP cfg R fl_r03_vars (retR cfg.P Tryz.f108 sig_r03_vars) [] code_r03_vars (initSt Tryz.f108 [(x0, .val), (x1, .own)] sg)
noncomputable def P_r03_vars_3 (R : Orc) (t1 : DV) (b2 : DV) (sg : List SObj) : Option (List DV × List SObj) := evP cfg R fl_r03_vars (retR cfg.P Tryz.f108 sig_r03_vars) [true, true] code_r03_vars ⟨spread .undef 36 0 [(1, t1)], spread .val 36 0 [(1, .own), (2, (.loc 2 0))], spread none 36 0 [(2, some [((proj 0 b2), .val), ((proj 1 b2), .val), ((proj 2 b2), .val)])], sg⟩
noncomputable def P_r03_vars_4h (R : Orc) (t1 : DV) (t5 : DV) (b2 : DV) (sg : List SObj) : Option (List DV × List SObj) := headP cfg R fl_r03_vars (retR cfg.P Tryz.f108 sig_r03_vars) [true, true, false, true, false] code_r03_vars ⟨spread .undef 36 0 [(1, t1), (5, t5)], spread .val 36 0 [(1, .own), (2, (.loc 2 0))], spread none 36 0 [(2, some [((proj 0 b2), .val), ((proj 1 b2), .val), ((proj 2 b2), .val)])], sg⟩
theorem eq_r03_vars (R : Orc) (x0 : DV) (x1 : DV) (sg : List SObj) : P_r03_vars R x0 x1 sg =
  (og (isAggN 3 x0) <|
  ob (dBin .eql (proj 0 x0) (.int .i64 6)) fun d1 =>
  ogd d1
   (ob (R.p F_r03_In [x1, (proj 1 x0)]) fun d2 =>
   ob (dUn .not d2) fun d3 =>
   oif d3
    (og (isCell (proj 1 x0)) <|
    ob (dApp 1 x1 (.list 1 [(proj 1 x0)])) fun d4 =>
    P_r03_vars_3 R d4 x0 sg)
    (P_r03_vars_3 R x1 x0 sg))
   (P_r03_vars_3 R x1 x0 sg)
   none) := evP_of [3] (by kernel_rfl)
theorem eq_r03_vars_3 (R : Orc) (t1 : DV) (b2 : DV) (sg : List SObj) : P_r03_vars_3 R t1 b2 sg =
  (P_r03_vars_4h R t1 (.int .i64 0) b2 sg) := evP_of [3] (by kernel_rfl)
theorem eq_r03_vars_4h (R : Orc) (t1 : DV) (t5 : DV) (b2 : DV) (sg : List SObj) : P_r03_vars_4h R t1 t5 b2 sg =
  (ob (dLen (proj 2 b2)) fun d1 =>
  ob (dBin .lss t5 d1) fun d2 =>
  oif d2
   (ob (dIdx 3 (proj 2 b2) t5) fun d3 =>
   ob (R.r F_r03_vars [((.agg [(proj 0 d3), (proj 1 d3), (proj 2 d3)]), .val), (t1, .own)] sg) fun q4 =>
   ob (dBin .add t5 (.int .i64 1)) fun d5 =>
   P_r03_vars_4h R (q4.1.getD 0 .undef) d5 b2 q4.2)
   (some ([t1], sg))) := headP_of [3] (by kernel_rfl)
theorem fix_r03_vars (x0 : DV) (x1 : DV) (sg : List SObj) : (run cfg).r F_r03_vars [(x0, .val), (x1, .own)] sg = P_r03_vars (run cfg) x0 x1 sg :=
  (fix_raw (C := cfg) (f := F_r03_vars) (s := sig_r03_vars) (fn := Tryz.f108) (c := code_r03_vars) (by kernel_rfl) Tryz.func108 (by kernel_rfl)).trans (by kernel_rfl)
theorem call_r03_vars (x0 : DV) (x1 : DV) (sg : List SObj) {q : List DV × List SObj} (h : P_r03_vars (run cfg) x0 x1 sg = some q) : (run cfg).r F_r03_vars [(x0, .val), (x1, .own)] sg = some q := (fix_r03_vars x0 x1 sg).trans h

/-! ### typ_Check -/
noncomputable def code_typ_Check : Code := Tryz.f109.body.getD .skip
noncomputable def P_typ_Check (R : Orc) (x0 : DV) : Option DV := evP cfg R fl_typ_Check (retP cfg.P Tryz.f109) [] code_typ_Check (initSt Tryz.f109 [(x0, .val)] [])
theorem eq_typ_Check (R : Orc) (x0 : DV) : P_typ_Check R x0 =
  (og (isAggN 3 x0) <|
  ob (R.p F_typ_right [(.agg [(proj 0 x0), (proj 1 x0), (proj 2 x0)])]) fun d1 =>
  ob (dUn .not d1) fun d2 =>
  oif d2
   (some (.int .i64 1))
   (some (.int .i64 0))) := evP_of [] (by kernel_rfl)
theorem fix_typ_Check (x0 : DV) : (run cfg).p F_typ_Check [x0] = P_typ_Check (run cfg) x0 :=
  (fix_pure (C := cfg) (f := F_typ_Check) (fn := Tryz.f109) (c := code_typ_Check) (by kernel_rfl) Tryz.func109 (by kernel_rfl)).trans (by kernel_rfl)
theorem call_typ_Check (x0 : DV) {d : DV} (h : P_typ_Check (run cfg) x0 = some d) : (run cfg).p F_typ_Check [x0] = some d := (fix_typ_Check x0).trans h

/-! ### scheme_put -/
noncomputable def code_scheme_put : Code := Tryz.f110.body.getD .skip
noncomputable def P_scheme_put (R : Orc) (x0 : DV) (x1 : DV) (x2 : Nat) (sg : List SObj) : Option (List DV × List SObj) := evP cfg R fl_scheme_put (retR cfg.P Tryz.f110 sig_scheme_put) [] code_scheme_put (initSt Tryz.f110 [(x0, .val), (x1, .val), (.undef, (.map x2))] sg)
noncomputable def P_scheme_put_10h (R : Orc) (t1 : DV) (t2i : Nat) (t38 : DV) (t39 : DV) (t40 : DV) (b6_0 : DV) (b6_1 : DV) (b6_2 : DV) (b9_0 : DV) (b9_1 : DV) (b9_2 : DV) (sg : List SObj) : Option (List DV × List SObj) := headP cfg R fl_scheme_put (retR cfg.P Tryz.f110 sig_scheme_put) [true, true, true, true, false, true, false] code_scheme_put ⟨spread .undef 55 0 [(1, t1), (38, t38), (39, t39), (40, t40)], spread .val 55 0 [(2, (.map t2i)), (6, (.loc 6 0)), (9, (.loc 9 0))], spread none 55 0 [(6, some [(b6_0, .val), (b6_1, .val), (b6_2, .val)]), (9, some [(b9_0, .val), (b9_1, .val), (b9_2, .own)])], sg⟩
theorem eq_scheme_put (R : Orc) (x0 : DV) (x1 : DV) (x2 : Nat) (sg : List SObj) : P_scheme_put R x0 x1 x2 sg =
  (og (isAggN 3 x0) <|
  ob (dBin .eql (proj 0 x0) (.int .i64 6)) fun d1 =>
  oif d1
   (og (isKey false (proj 1 x0) && true) <|
   ob (sgMap sg x2) fun m2 =>
   og (m2.1 == false) <|
   oif (.bool (mGet m2.2 (proj 1 x0)).isSome)
    (ob (dIdx 4 x1 ((mGet m2.2 (proj 1 x0)).getD (.int .i64 0))) fun d3 =>
    some ([(.agg [(proj 1 d3), (proj 2 d3), (proj 3 d3)])], sg))
    (some ([(.agg [(proj 0 x0), (proj 1 x0), (proj 2 x0)])], sg)))
   (ob (dLen (proj 2 x0)) fun d4 =>
   ob (dBin .eql d4 (.int .i64 0)) fun d5 =>
   oif d5
    (some ([(.agg [(proj 0 x0), (proj 1 x0), (proj 2 x0)])], sg))
    (og (isCell (proj 0 x0)) <|
    ob (dLen (proj 2 x0)) fun d6 =>
    P_scheme_put_10h R x1 x2 (proj 2 x0) d6 (.int .i64 0) (.int .i64 0) (.int .i64 0) (.list 3 []) (proj 0 x0) (.int .i64 0) (.list 3 []) sg))) := evP_of [] (by kernel_rfl)
theorem eq_scheme_put_10h (R : Orc) (t1 : DV) (t2i : Nat) (t38 : DV) (t39 : DV) (t40 : DV) (b6_0 : DV) (b6_1 : DV) (b6_2 : DV) (b9_0 : DV) (b9_1 : DV) (b9_2 : DV) (sg : List SObj) : P_scheme_put_10h R t1 t2i t38 t39 t40 b6_0 b6_1 b6_2 b9_0 b9_1 b9_2 sg =
  (ob (dBin .lss t40 t39) fun d1 =>
  oif d1
   (ob (dIdx 3 t38 t40) fun d2 =>
   ob (R.r F_scheme_put [((.agg [(proj 0 d2), (proj 1 d2), (proj 2 d2)]), .val), (t1, .val), (.undef, (.map t2i))] sg) fun q3 =>
   og (isAggN 3 (q3.1.getD 0 .undef)) <|
   ob (dApp 3 b9_2 (.list 3 [(q3.1.getD 0 .undef)])) fun d4 =>
   ob (dBin .add t40 (.int .i64 1)) fun d5 =>
   P_scheme_put_10h R t1 t2i t38 t39 d5 b6_0 b6_1 b6_2 b9_0 b9_1 d4 q3.2)
   (some ([(.agg [b9_0, b9_1, b9_2])], sg))) := headP_of [] (by kernel_rfl)
theorem fix_scheme_put (x0 : DV) (x1 : DV) (x2 : Nat) (sg : List SObj) : (run cfg).r F_scheme_put [(x0, .val), (x1, .val), (.undef, (.map x2))] sg = P_scheme_put (run cfg) x0 x1 x2 sg :=
  (fix_raw (C := cfg) (f := F_scheme_put) (s := sig_scheme_put) (fn := Tryz.f110) (c := code_scheme_put) (by kernel_rfl) Tryz.func110 (by kernel_rfl)).trans (by kernel_rfl)
theorem call_scheme_put (x0 : DV) (x1 : DV) (x2 : Nat) (sg : List SObj) {q : List DV × List SObj} (h : P_scheme_put (run cfg) x0 x1 x2 sg = some q) : (run cfg).r F_scheme_put [(x0, .val), (x1, .val), (.undef, (.map x2))] sg = some q := (fix_scheme_put x0 x1 x2 sg).trans h

/-! ### r05_names -/
noncomputable def code_r05_names : Code := Tryz.f115.body.getD .skip
noncomputable def P_r05_names (R : Orc) (x0 : DV) (x1 : DV) (sg : List SObj) : Option (List DV × List SObj) := evP cfg R fl_r05_names (retR cfg.P Tryz.f115 sig_r05_names) [] code_r05_names (initSt Tryz.f115 [(x0, .val), (x1, .own)] sg)
noncomputable def P_r05_names_4h (R : Orc) (t1 : DV) (t5 : DV) (b2 : DV) (sg : List SObj) : Option (List DV × List SObj) := headP cfg R fl_r05_names (retR cfg.P Tryz.f115 sig_r05_names) [true, true, false, true, false] code_r05_names ⟨spread .undef 29 0 [(1, t1), (5, t5)], spread .val 29 0 [(1, .own), (2, (.loc 2 0))], spread none 29 0 [(2, some [((proj 0 b2), .val), ((proj 1 b2), .val), ((proj 2 b2), .val), ((proj 3 b2), .val), ((proj 4 b2), .val), ((proj 5 b2), .val), ((proj 6 b2), .val)])], sg⟩
theorem eq_r05_names (R : Orc) (x0 : DV) (x1 : DV) (sg : List SObj) : P_r05_names R x0 x1 sg =
  (og (isAggN 7 x0) <|
  ob (dBin .eql (proj 0 x0) (.int .i64 2)) fun d1 =>
  oif d1
   (og (isCell (proj 3 x0)) <|
   ob (dApp 1 x1 (.list 1 [(proj 3 x0)])) fun d2 =>
   P_r05_names_4h R d2 (.int .i64 0) x0 sg)
   (P_r05_names_4h R x1 (.int .i64 0) x0 sg)) := evP_of [] (by kernel_rfl)
theorem eq_r05_names_4h (R : Orc) (t1 : DV) (t5 : DV) (b2 : DV) (sg : List SObj) : P_r05_names_4h R t1 t5 b2 sg =
  (ob (dLen (proj 6 b2)) fun d1 =>
  ob (dBin .lss t5 d1) fun d2 =>
  oif d2
   (ob (dIdx 7 (proj 6 b2) t5) fun d3 =>
   ob (R.r F_r05_names [((.agg [(proj 0 d3), (proj 1 d3), (proj 2 d3), (proj 3 d3), (proj 4 d3), (proj 5 d3), (proj 6 d3)]), .val), (t1, .own)] sg) fun q4 =>
   ob (dBin .add t5 (.int .i64 1)) fun d5 =>
   P_r05_names_4h R (q4.1.getD 0 .undef) d5 b2 q4.2)
   (some ([t1], sg))) := headP_of [] (by kernel_rfl)
theorem fix_r05_names (x0 : DV) (x1 : DV) (sg : List SObj) : (run cfg).r F_r05_names [(x0, .val), (x1, .own)] sg = P_r05_names (run cfg) x0 x1 sg :=
  (fix_raw (C := cfg) (f := F_r05_names) (s := sig_r05_names) (fn := Tryz.f115) (c := code_r05_names) (by kernel_rfl) Tryz.func115 (by kernel_rfl)).trans (by kernel_rfl)
theorem call_r05_names (x0 : DV) (x1 : DV) (sg : List SObj) {q : List DV × List SObj} (h : P_r05_names (run cfg) x0 x1 sg = some q) : (run cfg).r F_r05_names [(x0, .val), (x1, .own)] sg = some q := (fix_r05_names x0 x1 sg).trans h

/-! ### term_none -/
noncomputable def code_term_none : Code := Tryz.f116.body.getD .skip
noncomputable def P_term_none (R : Orc) (x0 : DV) : Option DV := evP cfg R fl_term_none (retP cfg.P Tryz.f116) [] code_term_none (initSt Tryz.f116 [(x0, .val)] [])
theorem eq_term_none (R : Orc) (x0 : DV) : P_term_none R x0 =
  (og (isAggN 3 x0) <|
  ob (dBin .eql (proj 0 x0) (.int .i64 0)) fun d1 =>
  ogd d1
   (ob (dBin .eql (proj 1 x0) (.int .i64 0)) fun d2 =>
   ogd d2
    (ob (dLen (proj 2 x0)) fun d3 =>
    ob (dBin .eql d3 (.int .i64 0)) fun d4 =>
    some d4)
    (some (.bool false))
    none)
   (some (.bool false))
   none) := evP_of [] (by kernel_rfl)
theorem fix_term_none (x0 : DV) : (run cfg).p F_term_none [x0] = P_term_none (run cfg) x0 :=
  (fix_pure (C := cfg) (f := F_term_none) (fn := Tryz.f116) (c := code_term_none) (by kernel_rfl) Tryz.func116 (by kernel_rfl)).trans (by kernel_rfl)
theorem call_term_none (x0 : DV) {d : DV} (h : P_term_none (run cfg) x0 = some d) : (run cfg).p F_term_none [x0] = some d := (fix_term_none x0).trans h

/-! ### tree_CheckPat -/
noncomputable def code_tree_CheckPat : Code := Tryz.f117.body.getD .skip
noncomputable def P_tree_CheckPat (R : Orc) (x0 : DV) : Option DV := evP cfg R fl_tree_CheckPat (retP cfg.P Tryz.f117) [] code_tree_CheckPat (initSt Tryz.f117 [(x0, .val)] [])
noncomputable def P_tree_CheckPat_r0 (R : Orc) (t0 : DV) (t6 : DV) (sg : List SObj) : Option DV := evP cfg R fl_tree_CheckPat (retP cfg.P Tryz.f117) [true, true, false, true, false] code_tree_CheckPat ⟨spread .undef 32 0 [(0, t0), (4, (.tup [])), (6, t6), (8, (.tup [])), (9, (.tup [])), (10, (.tup [])), (11, (.tup [])), (12, (.tup [])), (13, (.tup [])), (14, (.tup [])), (15, (.tup [])), (16, (.tup [])), (17, (.tup [])), (18, (.tup [])), (19, (.tup [])), (20, (.tup [])), (21, (.tup [])), (22, (.tup [])), (23, (.tup [])), (24, (.tup [])), (25, (.tup [])), (26, (.tup [])), (27, (.tup [])), (28, (.tup [])), (29, (.tup [])), (30, (.tup [])), (31, (.tup []))], spread .val 32 0 [(1, (.ptr 0 0)), (2, (.ptr 1 0)), (3, (.ptr 3 0)), (5, (.map 2)), (7, (.fn 133 [(4, 0)]))], spread none 32 0 [], sg⟩
noncomputable def rcode_tree_CheckPat_r0 : Code := match (sub [true, true, false, true, false] code_tree_CheckPat []).1 with
  | .rangeFunc _ _ a b => .seq a b
  | c => c
noncomputable def X_tree_CheckPat_r0 (R : Orc) (t0 : DV) (t6 : DV) (o : Out) (sg : List SObj) : Option DV := konP cfg R fl_tree_CheckPat (retP cfg.P Tryz.f117) [true, true, false, true, false] code_tree_CheckPat o (outerSt ⟨spread .undef 32 0 [(0, t0), (4, (.tup [])), (6, t6), (8, (.tup [])), (9, (.tup [])), (10, (.tup [])), (11, (.tup [])), (12, (.tup [])), (13, (.tup [])), (14, (.tup [])), (15, (.tup [])), (16, (.tup [])), (17, (.tup [])), (18, (.tup [])), (19, (.tup [])), (20, (.tup [])), (21, (.tup [])), (22, (.tup [])), (23, (.tup [])), (24, (.tup [])), (25, (.tup [])), (26, (.tup [])), (27, (.tup [])), (28, (.tup [])), (29, (.tup [])), (30, (.tup [])), (31, (.tup []))], spread .val 32 0 [(1, (.ptr 0 0)), (2, (.ptr 1 0)), (3, (.ptr 3 0)), (5, (.map 2)), (7, (.fn 133 [(4, 0)]))], spread none 32 0 [], []⟩ sg)
noncomputable def B_tree_CheckPat_r0 (R : Orc) (t0 : DV) (t6 : DV) (I : List SObj → Option DV) (x : DV) (sg : List SObj) : Option DV := evP cfg R fl_tree_CheckPat (kr I (X_tree_CheckPat_r0 R t0 t6)) [] rcode_tree_CheckPat_r0 ⟨spread .undef 32 0 [(8, x)], spread .val 32 0 [(2, (.ptr 1 0)), (3, (.ptr 3 0))], spread none 32 0 [], sg⟩
noncomputable def I_tree_CheckPat_r0 (R : Orc) (t0 : DV) (t6 : DV) : List DV → List SObj → Option DV := foldIt (fun x I sg => B_tree_CheckPat_r0 R t0 t6 I x sg) (X_tree_CheckPat_r0 R t0 t6 .normal)
noncomputable def P_tree_CheckPat_6 (R : Orc) (t0 : DV) (t6 : DV) (I : List SObj → Option DV) (b4 : DV) (sg : List SObj) : Option DV := evP cfg R fl_tree_CheckPat (kr I (X_tree_CheckPat_r0 R t0 t6)) [true, false, true] rcode_tree_CheckPat_r0 ⟨spread .undef 32 0 [], spread .val 32 0 [(3, (.ptr 3 0)), (4, (.loc 4 0))], spread none 32 0 [(4, some [((proj 0 b4), .val), ((proj 1 b4), .val), ((proj 2 b4), .val), ((proj 3 b4), .val), ((proj 4 b4), .val), ((proj 5 b4), .val), ((proj 6 b4), .val)])], sg⟩
theorem eq_tree_CheckPat (R : Orc) (x0 : DV) : P_tree_CheckPat R x0 =
  (og (isAggN 7 x0) <|
  P_tree_CheckPat_r0 R x0 (.agg [(proj 0 x0), (proj 1 x0), (proj 2 x0), (proj 3 x0), (proj 4 x0), (proj 5 x0), (proj 6 x0)]) [SObj.box [((proj 0 x0), .val), ((proj 1 x0), .val), ((proj 2 x0), .val), ((proj 3 x0), .val), ((proj 4 x0), .val), ((proj 5 x0), .val), ((proj 6 x0), .val)], SObj.box [((.int .i64 0), .val)], .map true [], SObj.box [(.undef, (.map 2))], SObj.box [((proj 0 x0), .val), ((proj 1 x0), .val), ((proj 2 x0), .val), ((proj 3 x0), .val), ((proj 4 x0), .val), ((proj 5 x0), .val), ((proj 6 x0), .val)]]) := evP_of [6] (by kernel_rfl)
theorem eq_tree_CheckPat_r0 (R : Orc) (t0 : DV) (t6 : DV) (sg : List SObj) : P_tree_CheckPat_r0 R t0 t6 sg =
  ob (sgBox sg 4) fun cs => ob (allDat cs) fun cd => ob (flatD 7 6 cd) fun ds => I_tree_CheckPat_r0 R t0 t6 ds (sg.set 4 (.arr 1 [])) :=
  (rangeP2 (t := 7) (f := 133) (i := 4) (q := 8) (it := flatD 7 6) (by kernel_rfl) (by kernel_rfl) (by kernel_rfl) (by kernel_rfl)).trans (by kernel_rfl)
theorem I_tree_CheckPat_r0_nil (R : Orc) (t0 : DV) (t6 : DV) (sg : List SObj) : I_tree_CheckPat_r0 R t0 t6 [] sg = X_tree_CheckPat_r0 R t0 t6 .normal sg := rfl
theorem I_tree_CheckPat_r0_cons (R : Orc) (t0 : DV) (t6 : DV) (x : DV) (ds : List DV) (sg : List SObj) : I_tree_CheckPat_r0 R t0 t6 (x :: ds) sg = B_tree_CheckPat_r0 R t0 t6 (I_tree_CheckPat_r0 R t0 t6 ds) x sg := rfl
theorem eq_B_tree_CheckPat_r0 (R : Orc) (t0 : DV) (t6 : DV) (I : List SObj → Option DV) (x : DV) (sg : List SObj) : B_tree_CheckPat_r0 R t0 t6 I x sg =
  (og (isAggN 7 x) <|
  ob (R.p F_tree_onePat [(.agg [(proj 0 x), (proj 1 x), (proj 2 x), (proj 3 x), (proj 4 x), (proj 5 x), (proj 6 x)])]) fun d1 =>
  ob (dUn .not d1) fun d2 =>
  ogd d2
   (ob (sgBox sg 1) fun c3 =>
   ob (c3[0]?) fun u4 =>
   X_tree_CheckPat_r0 R t0 t6 .ret (sg.set 1 (SObj.box (c3.set 0 ((.int .i64 1), .val)))))
   (ob (dBin .eql (proj 0 x) (.int .i64 2)) fun d5 =>
   ogd d5
    (ob (sgBox sg 3) fun c6 =>
    ob (cellMap c6 0) fun i7 =>
    og (isKey true (proj 3 x) && true) <|
    ob (sgMap sg i7) fun m8 =>
    og (m8.1 == true) <|
    ob (dBin .gtr ((mGet m8.2 (proj 3 x)).getD (.int .i64 0)) (.int .i64 0)) fun d9 =>
    oif d9
     (ob (sgBox sg 1) fun c10 =>
     ob (c10[0]?) fun u11 =>
     X_tree_CheckPat_r0 R t0 t6 .ret (sg.set 1 (SObj.box (c10.set 0 ((.int .i64 1), .val)))))
     (P_tree_CheckPat_6 R t0 t6 I x sg))
    (P_tree_CheckPat_6 R t0 t6 I x sg)
    none)
   none) := evP_of [6] (by kernel_rfl)
theorem eq_X_tree_CheckPat_r0_normal (R : Orc) (t0 : DV) (t6 : DV) (sg : List SObj) : X_tree_CheckPat_r0 R t0 t6 .normal sg =
  (ob (sgBox sg 1) fun c1 =>
  ob (c1[0]?) fun u2 =>
  ret1 (ob (sgBox (sg.set 1 (SObj.box (c1.set 0 ((.int .i64 0), .val)))) 1) fun c => oneCell (sg.set 1 (SObj.box (c1.set 0 ((.int .i64 0), .val)))) c)) := konP_of [6] (by kernel_rfl)
theorem eq_X_tree_CheckPat_r0_ret (R : Orc) (t0 : DV) (t6 : DV) (sg : List SObj) : X_tree_CheckPat_r0 R t0 t6 .ret sg =
  (ret1 (ob (sgBox sg 1) fun c => oneCell sg c)) := konP_of [6] (by kernel_rfl)
theorem eq_tree_CheckPat_6 (R : Orc) (t0 : DV) (t6 : DV) (I : List SObj → Option DV) (b4 : DV) (sg : List SObj) : P_tree_CheckPat_6 R t0 t6 I b4 sg =
  (ob (dBin .eql (proj 0 b4) (.int .i64 2)) fun d1 =>
  oif d1
   (ob (sgBox sg 3) fun c2 =>
   ob (cellMap c2 0) fun i3 =>
   og (isKey true (proj 3 b4) && true) <|
   ob (sgMap sg i3) fun m4 =>
   og (m4.1 == true) <|
   ob (dBin .add ((mGet m4.2 (proj 3 b4)).getD (.int .i64 0)) (.int .i64 1)) fun d5 =>
   og (isKey true (proj 3 b4) && true && true) <|
   ob (sgMap sg i3) fun m6 =>
   og (m6.1 == true) <|
   I (sg.set i3 (.map true (mSet m6.2 (proj 3 b4) d5))))
   (I sg)) := evP_of [6] (by kernel_rfl)
theorem fix_tree_CheckPat (x0 : DV) : (run cfg).p F_tree_CheckPat [x0] = P_tree_CheckPat (run cfg) x0 :=
  (fix_pure (C := cfg) (f := F_tree_CheckPat) (fn := Tryz.f117) (c := code_tree_CheckPat) (by kernel_rfl) Tryz.func117 (by kernel_rfl)).trans (by kernel_rfl)
theorem call_tree_CheckPat (x0 : DV) {d : DV} (h : P_tree_CheckPat (run cfg) x0 = some d) : (run cfg).p F_tree_CheckPat [x0] = some d := (fix_tree_CheckPat x0).trans h

/-! ### r05_SamePat -/
noncomputable def code_r05_SamePat : Code := Tryz.f118.body.getD .skip
noncomputable def P_r05_SamePat (R : Orc) (x0 : DV) (x1 : DV) : Option DV := evP cfg R fl_r05_SamePat (retP cfg.P Tryz.f118) [] code_r05_SamePat (initSt Tryz.f118 [(x0, .val), (x1, .val)] [])
noncomputable def P_r05_SamePat_4h (R : Orc) (t5 : DV) (b2 : DV) (b3 : DV) : Option DV := headP cfg R fl_r05_SamePat (retP cfg.P Tryz.f118) [true, true, false, true, false] code_r05_SamePat ⟨spread .undef 60 0 [(5, t5)], spread .val 60 0 [(2, (.loc 2 0)), (3, (.loc 3 0))], spread none 60 0 [(2, some [((proj 0 b2), .val), ((proj 1 b2), .val), ((proj 2 b2), .val), ((proj 3 b2), .val), ((proj 4 b2), .val), ((proj 5 b2), .val), ((proj 6 b2), .val)]), (3, some [((proj 0 b3), .val), ((proj 1 b3), .val), ((proj 2 b3), .val), ((proj 3 b3), .val), ((proj 4 b3), .val), ((proj 5 b3), .val), ((proj 6 b3), .val)])], []⟩
set_option maxRecDepth 100000 in
theorem eq_r05_SamePat (R : Orc) (x0 : DV) (x1 : DV) : P_r05_SamePat R x0 x1 =
  (og (isAggN 7 x0) <|
  og (isAggN 7 x1) <|
  ob (dBin .neq (proj 0 x0) (proj 0 x1)) fun d1 =>
  ogd d1
   (some (.bool false))
   (ob (dBin .neq (proj 3 x0) (proj 3 x1)) fun d2 =>
   ogd d2
    (some (.bool false))
    (ob (dBin .neq (proj 4 x0) (proj 4 x1)) fun d3 =>
    ogd d3
     (some (.bool false))
     (ob (dBin .neq (proj 5 x0) (proj 5 x1)) fun d4 =>
     ogd d4
      (some (.bool false))
      (ob (dLen (proj 6 x0)) fun d5 =>
      ob (dLen (proj 6 x1)) fun d6 =>
      ob (dBin .neq d5 d6) fun d7 =>
      oif d7
       (some (.bool false))
       (P_r05_SamePat_4h R (.int .i64 0) x0 x1))
      none)
     none)
    none)
   none) := evP_of [] (by kernel_rfl)
theorem eq_r05_SamePat_4h (R : Orc) (t5 : DV) (b2 : DV) (b3 : DV) : P_r05_SamePat_4h R t5 b2 b3 =
  (ob (dLen (proj 6 b2)) fun d1 =>
  ob (dBin .lss t5 d1) fun d2 =>
  oif d2
   (ob (dIdx 7 (proj 6 b2) t5) fun d3 =>
   ob (dIdx 7 (proj 6 b3) t5) fun d4 =>
   ob (R.p F_r05_SamePat [(.agg [(proj 0 d3), (proj 1 d3), (proj 2 d3), (proj 3 d3), (proj 4 d3), (proj 5 d3), (proj 6 d3)]), (.agg [(proj 0 d4), (proj 1 d4), (proj 2 d4), (proj 3 d4), (proj 4 d4), (proj 5 d4), (proj 6 d4)])]) fun d5 =>
   ob (dUn .not d5) fun d6 =>
   oif d6
    (some (.bool false))
    (ob (dBin .add t5 (.int .i64 1)) fun d7 =>
    P_r05_SamePat_4h R d7 b2 b3))
   (some (.bool true))) := headP_of [] (by kernel_rfl)
theorem fix_r05_SamePat (x0 : DV) (x1 : DV) : (run cfg).p F_r05_SamePat [x0, x1] = P_r05_SamePat (run cfg) x0 x1 :=
  (fix_pure (C := cfg) (f := F_r05_SamePat) (fn := Tryz.f118) (c := code_r05_SamePat) (by kernel_rfl) Tryz.func118 (by kernel_rfl)).trans (by kernel_rfl)
theorem call_r05_SamePat (x0 : DV) (x1 : DV) {d : DV} (h : P_r05_SamePat (run cfg) x0 x1 = some d) : (run cfg).p F_r05_SamePat [x0, x1] = some d := (fix_r05_SamePat x0 x1).trans h

/-! ### slices_Index__string_string -/
noncomputable def code_slices_Index__string_string : Code := Tryz.f125.body.getD .skip
noncomputable def P_slices_Index__string_string (R : Orc) (x0 : DV) (x1 : DV) : Option DV := evP cfg R fl_slices_Index__string_string (retP cfg.P Tryz.f125) [] code_slices_Index__string_string (initSt Tryz.f125 [(x0, .val), (x1, .val)] [])
noncomputable def P_slices_Index__string_string_2h (R : Orc) (t0 : DV) (t1 : DV) (t7 : DV) (t8 : DV) : Option DV := headP cfg R fl_slices_Index__string_string (retP cfg.P Tryz.f125) [true, false, true, false] code_slices_Index__string_string ⟨spread .undef 19 0 [(0, t0), (1, t1), (7, t7), (8, t8)], spread .val 19 0 [], spread none 19 0 [], []⟩
theorem eq_slices_Index__string_string (R : Orc) (x0 : DV) (x1 : DV) : P_slices_Index__string_string R x0 x1 =
  (ob (dLen x0) fun d1 =>
  P_slices_Index__string_string_2h R x0 x1 d1 (.int .i64 0)) := evP_of [] (by kernel_rfl)
theorem eq_slices_Index__string_string_2h (R : Orc) (t0 : DV) (t1 : DV) (t7 : DV) (t8 : DV) : P_slices_Index__string_string_2h R t0 t1 t7 t8 =
  (ob (dBin .lss t8 t7) fun d1 =>
  oif d1
   (ob (dIdx 1 t0 t8) fun d2 =>
   og (isLeaf d2) <|
   ob (dBin .eql t1 d2) fun d3 =>
   oif d3
    (some t8)
    (ob (dBin .add t8 (.int .i64 1)) fun d4 =>
    P_slices_Index__string_string_2h R t0 t1 t7 d4))
   (some (.int .i64 (-1)))) := headP_of [] (by kernel_rfl)
theorem fix_slices_Index__string_string (x0 : DV) (x1 : DV) : (run cfg).p F_slices_Index__string_string [x0, x1] = P_slices_Index__string_string (run cfg) x0 x1 :=
  (fix_pure (C := cfg) (f := F_slices_Index__string_string) (fn := Tryz.f125) (c := code_slices_Index__string_string) (by kernel_rfl) Tryz.func125 (by kernel_rfl)).trans (by kernel_rfl)
theorem call_slices_Index__string_string (x0 : DV) (x1 : DV) {d : DV} (h : P_slices_Index__string_string (run cfg) x0 x1 = some d) : (run cfg).p F_slices_Index__string_string [x0, x1] = some d := (fix_slices_Index__string_string x0 x1).trans h

/-! ### typ_right -/
noncomputable def code_typ_right : Code := Tryz.f126.body.getD .skip
noncomputable def P_typ_right (R : Orc) (x0 : DV) : Option DV := evP cfg R fl_typ_right (retP cfg.P Tryz.f126) [] code_typ_right (initSt Tryz.f126 [(x0, .val)] [])
noncomputable def P_typ_right_9h (R : Orc) (t33 : DV) (t34 : DV) (t35 : DV) : Option DV := headP cfg R fl_typ_right (retP cfg.P Tryz.f126) [true, true, true, true, false, true, false] code_typ_right ⟨spread .undef 43 0 [(33, t33), (34, t34), (35, t35)], spread .val 43 0 [], spread none 43 0 [], []⟩
theorem eq_typ_right (R : Orc) (x0 : DV) : P_typ_right R x0 =
  (og (isAggN 3 x0) <|
  ob (R.p F_typ_arity [(proj 0 x0)]) fun d1 =>
  ob (dBin .lss d1 (.int .i64 0)) fun d2 =>
  ogd d2
   (some (.bool false))
   (ob (dLen (proj 2 x0)) fun d3 =>
   ob (dBin .neq d3 d1) fun d4 =>
   oif d4
    (some (.bool false))
    (ob (dBin .eql (proj 0 x0) (.int .i64 6)) fun d5 =>
    oif d5
     (ob (dBin .geq (proj 1 x0) (.int .i64 0)) fun d6 =>
     ogd d6
      (ob (dBin .leq (proj 1 x0) (.int .i64 1048576)) fun d7 =>
      some d7)
      (some (.bool false))
      none)
     (ob (dBin .neq (proj 1 x0) (.int .i64 0)) fun d8 =>
     oif d8
      (some (.bool false))
      (ob (dLen (proj 2 x0)) fun d9 =>
      P_typ_right_9h R (proj 2 x0) d9 (.int .i64 0)))))
   none) := evP_of [] (by kernel_rfl)
theorem eq_typ_right_9h (R : Orc) (t33 : DV) (t34 : DV) (t35 : DV) : P_typ_right_9h R t33 t34 t35 =
  (ob (dBin .lss t35 t34) fun d1 =>
  oif d1
   (ob (dIdx 3 t33 t35) fun d2 =>
   ob (R.p F_typ_right [(.agg [(proj 0 d2), (proj 1 d2), (proj 2 d2)])]) fun d3 =>
   ob (dUn .not d3) fun d4 =>
   oif d4
    (some (.bool false))
    (ob (dBin .add t35 (.int .i64 1)) fun d5 =>
    P_typ_right_9h R t33 t34 d5))
   (some (.bool true))) := headP_of [] (by kernel_rfl)
theorem fix_typ_right (x0 : DV) : (run cfg).p F_typ_right [x0] = P_typ_right (run cfg) x0 :=
  (fix_pure (C := cfg) (f := F_typ_right) (fn := Tryz.f126) (c := code_typ_right) (by kernel_rfl) Tryz.func126 (by kernel_rfl)).trans (by kernel_rfl)
theorem call_typ_right (x0 : DV) {d : DV} (h : P_typ_right (run cfg) x0 = some d) : (run cfg).p F_typ_right [x0] = some d := (fix_typ_right x0).trans h

/-! ### tree_onePat -/
noncomputable def code_tree_onePat : Code := Tryz.f130.body.getD .skip
noncomputable def P_tree_onePat (R : Orc) (x0 : DV) : Option DV := evP cfg R fl_tree_onePat (retP cfg.P Tryz.f130) [] code_tree_onePat (initSt Tryz.f130 [(x0, .val)] [])
noncomputable def P_tree_onePat_24 (R : Orc) (t4 : DV) (b1 : DV) (b3_0 : DV) (b3_1 : DV) (b3_2 : DV) (b3_3 : DV) (b3_4 : DV) (b3_5 : DV) (b3_6 : DV) : Option DV := evP cfg R fl_tree_onePat (retP cfg.P Tryz.f130) [true, true, true] code_tree_onePat ⟨spread .undef 83 0 [(4, t4)], spread .val 83 0 [(1, (.loc 1 0)), (3, (.loc 3 0))], spread none 83 0 [(1, some [((proj 0 b1), .val), ((proj 1 b1), .val), ((proj 2 b1), .val), ((proj 3 b1), .val), ((proj 4 b1), .val), ((proj 5 b1), .val), ((proj 6 b1), .val)]), (3, some [(b3_0, .val), (b3_1, .val), (b3_2, .val), (b3_3, .val), (b3_4, .val), (b3_5, .val), (b3_6, .val)])], []⟩
set_option maxRecDepth 100000 in
theorem eq_tree_onePat (R : Orc) (x0 : DV) : P_tree_onePat R x0 =
  (og (isAggN 7 x0) <|
  og (isCell (proj 0 x0)) <|
  og (isCell (proj 6 x0)) <|
  ob (dBin .eql (proj 0 x0) (.int .i64 1)) fun d1 =>
  oif d1
   (P_tree_onePat_24 R (.int .i64 0) x0 (proj 0 x0) (proj 1 x0) (proj 2 x0) (.str ⟨#[]⟩) (.int .i64 0) (.str ⟨#[]⟩) (proj 6 x0))
   (ob (dBin .eql (proj 0 x0) (.int .i64 6)) fun d2 =>
   oif d2
    (P_tree_onePat_24 R (.int .i64 0) x0 (proj 0 x0) (proj 1 x0) (proj 2 x0) (.str ⟨#[]⟩) (.int .i64 0) (.str ⟨#[]⟩) (proj 6 x0))
    (ob (dBin .eql (proj 0 x0) (.int .i64 8)) fun d3 =>
    oif d3
     (P_tree_onePat_24 R (.int .i64 0) x0 (proj 0 x0) (proj 1 x0) (proj 2 x0) (.str ⟨#[]⟩) (.int .i64 0) (.str ⟨#[]⟩) (proj 6 x0))
     (ob (dBin .eql (proj 0 x0) (.int .i64 2)) fun d4 =>
     oif d4
      (og (isCell (proj 3 x0)) <|
      ob (R.p F_word_Name [(proj 3 x0)]) fun d5 =>
      ob (dUn .not d5) fun d6 =>
      oif d6
       (some (.bool false))
       (P_tree_onePat_24 R (.int .i64 0) x0 (proj 0 x0) (proj 1 x0) (proj 2 x0) (proj 3 x0) (.int .i64 0) (.str ⟨#[]⟩) (proj 6 x0)))
      (ob (dBin .eql (proj 0 x0) (.int .i64 3)) fun d7 =>
      oif d7
       (og (isCell (proj 4 x0)) <|
       P_tree_onePat_24 R (.int .i64 0) x0 (proj 0 x0) (proj 1 x0) (proj 2 x0) (.str ⟨#[]⟩) (proj 4 x0) (.str ⟨#[]⟩) (proj 6 x0))
       (ob (dBin .eql (proj 0 x0) (.int .i64 4)) fun d8 =>
       oif d8
        (og (isCell (proj 4 x0)) <|
        ob (dBin .neq (proj 4 x0) (.int .i64 0)) fun d9 =>
        ogd d9
         (ob (dBin .neq (proj 4 x0) (.int .i64 1)) fun d10 =>
         oif d10
          (some (.bool false))
          (P_tree_onePat_24 R (.int .i64 0) x0 (proj 0 x0) (proj 1 x0) (proj 2 x0) (.str ⟨#[]⟩) (proj 4 x0) (.str ⟨#[]⟩) (proj 6 x0)))
         (P_tree_onePat_24 R (.int .i64 0) x0 (proj 0 x0) (proj 1 x0) (proj 2 x0) (.str ⟨#[]⟩) (proj 4 x0) (.str ⟨#[]⟩) (proj 6 x0))
         none)
        (ob (dBin .eql (proj 0 x0) (.int .i64 5)) fun d11 =>
        oif d11
         (og (isCell (proj 5 x0)) <|
         ob (dLenS (proj 5 x0)) fun d12 =>
         ob (dBin .gtr d12 (.int .i64 200)) fun d13 =>
         oif d13
          (some (.bool false))
          (P_tree_onePat_24 R (.int .i64 0) x0 (proj 0 x0) (proj 1 x0) (proj 2 x0) (.str ⟨#[]⟩) (.int .i64 0) (proj 5 x0) (proj 6 x0)))
         (ob (dBin .eql (proj 0 x0) (.int .i64 7)) fun d14 =>
         oif d14
          (P_tree_onePat_24 R (.int .i64 2) x0 (proj 0 x0) (proj 1 x0) (proj 2 x0) (.str ⟨#[]⟩) (.int .i64 0) (.str ⟨#[]⟩) (proj 6 x0))
          (ob (dBin .eql (proj 0 x0) (.int .i64 9)) fun d15 =>
          oif d15
           (P_tree_onePat_24 R (.int .i64 2) x0 (proj 0 x0) (proj 1 x0) (proj 2 x0) (.str ⟨#[]⟩) (.int .i64 0) (.str ⟨#[]⟩) (proj 6 x0))
           (some (.bool false))))))))))) := evP_of [24] (by kernel_rfl)
set_option maxRecDepth 100000 in
theorem eq_tree_onePat_24 (R : Orc) (t4 : DV) (b1 : DV) (b3_0 : DV) (b3_1 : DV) (b3_2 : DV) (b3_3 : DV) (b3_4 : DV) (b3_5 : DV) (b3_6 : DV) : P_tree_onePat_24 R t4 b1 b3_0 b3_1 b3_2 b3_3 b3_4 b3_5 b3_6 =
  (ob (dLen (proj 6 b1)) fun d1 =>
  ob (dBin .eql d1 t4) fun d2 =>
  ogd d2
   (ob (dBin .eql b3_3 (proj 3 b1)) fun d3 =>
   ogd d3
    (ob (dBin .eql b3_4 (proj 4 b1)) fun d4 =>
    ogd d4
     (ob (dBin .eql b3_5 (proj 5 b1)) fun d5 =>
     some d5)
     (some (.bool false))
     none)
    (some (.bool false))
    none)
   (some (.bool false))
   none) := evP_of [24] (by kernel_rfl)
theorem fix_tree_onePat (x0 : DV) : (run cfg).p F_tree_onePat [x0] = P_tree_onePat (run cfg) x0 :=
  (fix_pure (C := cfg) (f := F_tree_onePat) (fn := Tryz.f130) (c := code_tree_onePat) (by kernel_rfl) Tryz.func130 (by kernel_rfl)).trans (by kernel_rfl)
theorem call_tree_onePat (x0 : DV) {d : DV} (h : P_tree_onePat (run cfg) x0 = some d) : (run cfg).p F_tree_onePat [x0] = some d := (fix_tree_onePat x0).trans h

/-! ### typ_arity -/
noncomputable def code_typ_arity : Code := Tryz.f132.body.getD .skip
noncomputable def P_typ_arity (R : Orc) (x0 : DV) : Option DV := evP cfg R fl_typ_arity (retP cfg.P Tryz.f132) [] code_typ_arity (initSt Tryz.f132 [(x0, .val)] [])
theorem eq_typ_arity (R : Orc) (x0 : DV) : P_typ_arity R x0 =
  (ob (dBin .eql x0 (.int .i64 1)) fun d1 =>
  oif d1
   (some (.int .i64 0))
   (ob (dBin .eql x0 (.int .i64 2)) fun d2 =>
   oif d2
    (some (.int .i64 0))
    (ob (dBin .eql x0 (.int .i64 3)) fun d3 =>
    oif d3
     (some (.int .i64 0))
     (ob (dBin .eql x0 (.int .i64 4)) fun d4 =>
     oif d4
      (some (.int .i64 0))
      (ob (dBin .eql x0 (.int .i64 5)) fun d5 =>
      oif d5
       (some (.int .i64 0))
       (ob (dBin .eql x0 (.int .i64 6)) fun d6 =>
       oif d6
        (some (.int .i64 0))
        (ob (dBin .eql x0 (.int .i64 8)) fun d7 =>
        oif d7
         (some (.int .i64 1))
         (ob (dBin .eql x0 (.int .i64 7)) fun d8 =>
         oif d8
          (some (.int .i64 2))
          (ob (dBin .eql x0 (.int .i64 9)) fun d9 =>
          oif d9
           (some (.int .i64 2))
           (some (.int .i64 (-1)))))))))))) := evP_of [] (by kernel_rfl)
theorem fix_typ_arity (x0 : DV) : (run cfg).p F_typ_arity [x0] = P_typ_arity (run cfg) x0 :=
  (fix_pure (C := cfg) (f := F_typ_arity) (fn := Tryz.f132) (c := code_typ_arity) (by kernel_rfl) Tryz.func132 (by kernel_rfl)).trans (by kernel_rfl)
theorem call_typ_arity (x0 : DV) {d : DV} (h : P_typ_arity (run cfg) x0 = some d) : (run cfg).p F_typ_arity [x0] = some d := (fix_typ_arity x0).trans h

end Go.Su

/-
  All equations.
-/
namespace Go.Su
end Go.Su

/-
  The functions' specs that this claim needs.
-/
namespace Go.Su
set_option linter.unusedVariables false
set_option linter.unusedSimpArgs false

theorem big {n : Nat} (h : n ≤ lim) : n < 4294967297 := by unfold lim at h; omega

theorem Ty.kid_big {t k : Ty} (ht : t.size ≤ lim) (h : k ∈ t.kids) : k.size ≤ lim := by have := Ty.size_kid h; omega

theorem Ty.len_big {t : Ty} (ht : t.size ≤ lim) : t.kids.length < 4294967296 := by have := t.len_lt; have := big ht; omega

theorem sp_r03_Kids (k : Int) : (run cfg).p F_r03_Kids [.int .i64 k] = some (.int .i64 (arity k)) := by
  refine call_r03_Kids _ ?_
  rw [eq_r03_Kids]
  simp [arity]
  by_cases h1 : k = 1 <;> by_cases h2 : k = 2 <;> by_cases h3 : k = 3 <;> by_cases h4 : k = 4 <;> by_cases h5 : k = 5 <;> by_cases h6 : k = 6 <;> by_cases h7 : k = 7 <;> by_cases h8 : k = 8 <;> by_cases h9 : k = 9 <;> simp_all

theorem sp_typ_arity (k : Int) : (run cfg).p F_typ_arity [.int .i64 k] = some (.int .i64 (arity k)) := by
  refine call_typ_arity _ ?_
  rw [eq_typ_arity]
  simp [arity]
  by_cases h1 : k = 1 <;> by_cases h2 : k = 2 <;> by_cases h3 : k = 3 <;> by_cases h4 : k = 4 <;> by_cases h5 : k = 5 <;> by_cases h6 : k = 6 <;> by_cases h7 : k = 7 <;> by_cases h8 : k = 8 <;> by_cases h9 : k = 9 <;> simp_all

theorem sp_r03_Right (t : Ty) : t.thin = true → (run cfg).p F_r03_Right [t.enc] = some (.bool t.right) := by
  induction t using Ty.ind with
  | h t ih =>
    intro ht
    have hb := t.thin_len ht
    refine call_r03_Right _ ?_
    have loop : P_r03_Right_4h (run cfg) (.int .i64 0) t.enc = _ := loop_all (l := t.kids) (f := Ty.right) (P := fun i => P_r03_Right_4h (run cfg) (.int .i64 i) t.enc) (y := .bool true) (n := .bool false)
      (by rw [eq_r03_Right_4h]; simp)
      (fun i h => by
        rw [eq_r03_Right_4h]
        simp [h, dIdx_map h, Ty.eta, ih _ (List.getElem_mem h) (Ty.thin_kid ht (List.getElem_mem h)), dAdd1 (show i < 9223372036854775807 by omega)]
        cases t.kids[i].right <;> rfl)
    rw [eq_r03_Right]
    simp only [isAggN_Ty, og_true', Ty.proj0, Ty.proj1, Ty.proj2, sp_r03_Kids, ob_some', dLen_list, dBin_neq, dBin_lss, dBin_gtr, ogd_bool, oif_bool, loop, Ty.right_eq t, List.length_map]
    grind

theorem sp_typ_right (t : Ty) : t.thin = true → (run cfg).p F_typ_right [t.enc] = some (.bool t.right) := by
  induction t using Ty.ind with
  | h t ih =>
    intro ht
    have hb := t.thin_len ht
    refine call_typ_right _ ?_
    have loop : P_typ_right_9h (run cfg) (.list 3 (t.kids.map Ty.enc)) (.int .i64 t.kids.length) (.int .i64 0) = _ := loop_all (l := t.kids) (f := Ty.right) (P := fun i => P_typ_right_9h (run cfg) (.list 3 (t.kids.map Ty.enc)) (.int .i64 t.kids.length) (.int .i64 i)) (y := .bool true) (n := .bool false)
      (by rw [eq_typ_right_9h]; simp)
      (fun i h => by
        rw [eq_typ_right_9h]
        simp [h, dIdx_map h, Ty.eta, ih _ (List.getElem_mem h) (Ty.thin_kid ht (List.getElem_mem h)), dAdd1 (show i < 9223372036854775807 by omega)]
        cases t.kids[i].right <;> rfl)
    rw [eq_typ_right]
    simp only [isAggN_Ty, og_true', Ty.proj0, Ty.proj1, Ty.proj2, sp_typ_arity, ob_some', dLen_list, dBin_neq, dBin_lss, dBin_gtr, dBin_geq, dBin_leq, dBin_eql, ogd_bool, oif_bool, loop, Ty.right_eq t, List.length_map]
    have h0 : t.kind = 6 → arity t.kind = 0 := fun h => by rw [h]; rfl
    have h7 : t.kind = 6 → arity t.kind = t.kids.length → t.kids.all Ty.right = true := fun h h' => by
      have : t.kids = [] := List.eq_nil_of_length_eq_zero (by have := h0 h; omega)
      rw [this]; rfl
    have h8 : (t.kids.length : Int) = arity t.kind ↔ arity t.kind = t.kids.length := eq_comm
    simp only [h8, ite_sb, ite_db]
    refine sb_iff ?_
    by_cases h1 : arity t.kind = t.kids.length
    · have h2 : ¬ (arity t.kind < 0) := by omega
      by_cases h4 : t.kind = 6
      · simp [h1, h2, h4, h7 h4 h1]
        omega
      · by_cases h5 : t.n = 0 <;> simp [h1, h2, h4, h5]
    · by_cases h2 : arity t.kind < 0 <;> simp [h1, h2]

theorem sp_typ_Check (t : Ty) (ht : t.thin = true) : (run cfg).p F_typ_Check [t.enc] = some (.int .i64 (if t.right = true then 0 else 1)) := by
  refine call_typ_Check _ ?_
  rw [eq_typ_Check]
  simp [Ty.eta, sp_typ_right t ht]
  cases t.right <;> rfl

theorem sp_r03_Size (t : Ty) : t.size ≤ lim → (run cfg).p F_r03_Size [t.enc] = some (.int .i64 t.size) := by
  induction t using Ty.ind with
  | h t ih =>
    intro ht
    have hb := Ty.len_big ht
    refine call_r03_Size _ ?_
    rw [eq_r03_Size]
    simp only [isAggN_Ty, og_true']
    have loop := loop_fold (l := t.kids) (P := fun i (a : Nat) => P_r03_Size_3h (run cfg) (.int .i64 a) (.int .i64 i) t.enc) (g := fun a k => a + k.size) (fin := fun a => some (.int .i64 a))
      (I := fun i a => a + ((t.kids.drop i).map Ty.size).sum ≤ lim)
      (fun a _ => by rw [eq_r03_Size_3h]; simp)
      (fun i h a ha => by
        rw [List.drop_eq_getElem_cons h, List.map_cons, List.sum_cons] at ha
        have := big ha
        refine ⟨?_, by omega⟩
        rw [eq_r03_Size_3h]
        simp [h, dIdx_map h, Ty.eta, ih _ (List.getElem_mem h) (Ty.kid_big ht (List.getElem_mem h)), dAdd1 (show i < 9223372036854775807 by omega)]
        rw [dAdd (by omega) (by omega)]
        simp) 1 (by have := Ty.size_eq t; simpa using (by omega : 1 + (t.kids.map Ty.size).sum ≤ lim))
    have e : ∀ (l : List Ty) (a : Nat), l.foldl (fun a k => a + k.size) a = a + (l.map Ty.size).sum := by
      intro l
      induction l with
      | nil => intro a; simp
      | cons x l ih => intro a; simp [ih]; omega
    rw [e, ← Ty.size_eq] at loop
    exact loop

theorem sp_typ_Same (a : Ty) : a.thin = true → ∀ b : Ty, (run cfg).p F_typ_Same [a.enc, b.enc] = some (.bool (decide (a = b))) := by
  induction a using Ty.ind with
  | h a ih =>
    intro ha b
    have hb := a.thin_len ha
    refine call_typ_Same _ _ ?_
    rw [eq_typ_Same]
    simp
    by_cases h1 : a.kind = b.kind <;> simp [h1, Ty.ext_iff']
    by_cases h2 : a.n = b.n <;> simp [h2]
    by_cases h3 : a.kids.length = b.kids.length
    · have loop := loop_two (l := a.kids) (m := b.kids) h3 (P := fun i => P_typ_Same_4h (run cfg) (.list 3 (a.kids.map Ty.enc)) (.int .i64 a.kids.length) (.int .i64 i) b.enc) (y := .bool true) (n := .bool false)
        (by rw [eq_typ_Same_4h]; simp [h3])
        (fun i h => by
          have h' : i < b.kids.length := by omega
          rw [eq_typ_Same_4h]
          simp [h, h', dIdx_map h, dIdx_map h', Ty.eta, ih _ (List.getElem_mem h) (Ty.thin_kid ha (List.getElem_mem h)), dAdd1 (show i < 9223372036854775807 by omega)])
      simp only [h3] at loop ⊢
      simp [loop]
      by_cases h4 : a.kids = b.kids <;> simp [h4]
    · have : a.kids ≠ b.kids := fun h => h3 (by rw [h])
      simp [Int.ofNat_inj, h3, this]

theorem sp_r03_Same (a : Ty) : a.thin = true → ∀ b : Ty, (run cfg).p F_r03_Same [a.enc, b.enc] = some (.bool (decide (a = b))) := by
  induction a using Ty.ind with
  | h a ih =>
    intro ha b
    have hb := a.thin_len ha
    refine call_r03_Same _ _ ?_
    rw [eq_r03_Same]
    simp
    by_cases h1 : a.kind = b.kind <;> simp [h1, Ty.ext_iff']
    by_cases h2 : a.n = b.n <;> simp [h2]
    by_cases h3 : a.kids.length = b.kids.length
    · have loop := loop_two (l := a.kids) (m := b.kids) h3 (P := fun i => P_r03_Same_4h (run cfg) (.int .i64 i) a.enc b.enc) (y := .bool true) (n := .bool false)
        (by rw [eq_r03_Same_4h]; simp [h3])
        (fun i h => by
          have h' : i < b.kids.length := by omega
          rw [eq_r03_Same_4h]
          simp [h, h', dIdx_map h, dIdx_map h', Ty.eta, ih _ (List.getElem_mem h) (Ty.thin_kid ha (List.getElem_mem h)), dAdd1 (show i < 9223372036854775807 by omega)])
      simp only [h3] at loop ⊢
      simp [loop]
      by_cases h4 : a.kids = b.kids <;> simp [h4]
    · have : a.kids ≠ b.kids := fun h => h3 (by rw [h])
      simp [Int.ofNat_inj, h3, this]

theorem sp_r03_SameAll (a b : List Ty) (hl : a.length ≤ lim) (ha : ∀ t ∈ a, t.thin = true) : (run cfg).p F_r03_SameAll [.list 3 (a.map Ty.enc), .list 3 (b.map Ty.enc)] = some (.bool (decide (a = b))) := by
  have hb := big hl
  refine call_r03_SameAll _ _ ?_
  rw [eq_r03_SameAll]
  simp
  by_cases h3 : a.length = b.length
  · have loop := loop_two (l := a) (m := b) h3 (P := fun i => P_r03_SameAll_4h (run cfg) (.list 3 (a.map Ty.enc)) (.list 3 (b.map Ty.enc)) (.int .i64 i)) (y := .bool true) (n := .bool false)
      (by rw [eq_r03_SameAll_4h]; simp [h3])
      (fun i h => by
        have h' : i < b.length := by omega
        rw [eq_r03_SameAll_4h]
        simp [h, h', dIdx_map h, dIdx_map h', Ty.eta, sp_r03_Same _ (ha _ (List.getElem_mem h)), dAdd1 (show i < 9223372036854775807 by omega)])
    simp only [h3] at loop ⊢
    simp [loop]
    by_cases h4 : a = b <;> simp [h4]
  · have : a ≠ b := fun h => h3 (by rw [h])
    simp [Int.ofNat_inj, h3, this]

theorem sp_r03_In (l : List Int) (hl : l.length ≤ lim) (n : Int) : (run cfg).p F_r03_In [encInts l, .int .i64 n] = some (.bool (decide (n ∈ l))) := by
  have hb := big hl
  refine call_r03_In _ _ ?_
  rw [eq_r03_In]
  have loop := loop_anyB (l := l) (f := fun x => decide (x = n)) (P := fun i => P_r03_In_2h (run cfg) (encInts l) (.int .i64 n) (.int .i64 i))
    (by rw [eq_r03_In_2h]; simp)
    (fun i h => by
      rw [eq_r03_In_2h]
      simp [h, dIdx_ints h, dAdd1 (show i < 9223372036854775807 by omega)])
  refine loop.trans ?_
  congr 2
  rw [Bool.eq_iff_iff]
  simp

theorem sp_r03_vars (t : Ty) : ∀ (l : List Int) (sg : List SObj), l.length + t.size ≤ lim → (run cfg).r F_r03_vars [(t.enc, .val), (encInts l, .own)] sg = some ([encInts (t.varsOn l)], sg) := by
  induction t using Ty.ind with
  | h t ih =>
    intro l sg hl
    have hb := Ty.len_big (show t.size ≤ lim by omega)
    have hB := big hl
    refine call_r03_vars _ _ _ ?_
    have loop : ∀ l : List Int, l.length + (t.kids.map Ty.size).sum ≤ lim → P_r03_vars_4h (run cfg) (encInts l) (.int .i64 0) t.enc sg = some ([encInts (t.kids.foldl (fun l k => k.varsOn l) l)], sg) :=
      loop_fold (l := t.kids) (P := fun i (a : List Int) => P_r03_vars_4h (run cfg) (encInts a) (.int .i64 i) t.enc sg) (g := fun a k => k.varsOn a) (fin := fun a => some ([encInts a], sg))
        (I := fun i a => a.length + ((t.kids.drop i).map Ty.size).sum ≤ lim)
        (fun a _ => by rw [eq_r03_vars_4h]; simp)
        (fun i h a ha => by
          rw [List.drop_eq_getElem_cons h, List.map_cons, List.sum_cons] at ha
          have h1 := Ty.varsOn_len t.kids[i] a
          refine ⟨?_, by omega⟩
          rw [eq_r03_vars_4h]
          simp [h, dIdx_map h, Ty.eta, ih _ (List.getElem_mem h) a sg (by omega), dAdd1 (show i < 9223372036854775807 by omega)])
    have hsz := Ty.size_eq t
    rw [eq_r03_vars, Ty.varsOn_eq]
    simp
    by_cases h6 : t.kind = 6
    · simp [h6, sp_r03_In l (by omega) t.n]
      by_cases hn : t.n ∈ l
      · simp [hn, eq_r03_vars_3, loop l (by omega)]
      · simp [hn, eq_r03_vars_3]
        rw [show encInts l = .list 1 (l.map fun n => .int .i64 n) from rfl, dApp_list (by simp; omega)]
        simp
        have := loop (l ++ [t.n]) (by simp; omega)
        simpa [encInts] using this
    · simp [h6, eq_r03_vars_3, loop l (by omega)]

theorem sp_r03_Vars (t : Ty) (ht : t.size ≤ lim) : (run cfg).p F_r03_Vars [t.enc] = some (encInts t.vars) := by
  refine call_r03_Vars _ ?_
  rw [eq_r03_Vars]
  have := sp_r03_vars t [] [] (by simpa using ht)
  have e : encInts [] = .list 1 [] := rfl
  rw [e] at this
  simp [Ty.eta, this, Ty.vars]

theorem sp_r03_Leaf (k : Int) : (run cfg).p F_r03_Leaf [.int .i64 k] = some (Ty.mk k 0 []).enc := by
  refine call_r03_Leaf _ ?_
  rw [eq_r03_Leaf]
  simp [Ty.enc]

theorem sp_l03_count (t : Ty) : ∀ n : Int, t.thin = true → 0 ≤ n → n ≤ 1048576 → ∃ m : Int, (run cfg).p F_l03_count [t.enc, .int .i64 n] = some (.int .i64 m) ∧ 0 ≤ m ∧ m ≤ max (n + 1) 601 := by
  induction t using Ty.ind with
  | h t ih =>
    intro n ht h0 h1
    have hb := t.thin_len ht
    have loop : ∀ m : Int, 0 ≤ m → m ≤ 1048577 → ∃ r : Int, P_l03_count_3h (run cfg) (.int .i64 m) (.int .i64 0) t.enc = some (.int .i64 r) ∧ 0 ≤ r ∧ r ≤ max m 601 := by
      have key : ∀ (k i : Nat) (m : Int), i + k = t.kids.length → 0 ≤ m → m ≤ 1048577 → ∃ r : Int, P_l03_count_3h (run cfg) (.int .i64 m) (.int .i64 i) t.enc = some (.int .i64 r) ∧ 0 ≤ r ∧ r ≤ max m 601 := by
        intro k
        induction k with
        | zero =>
          intro i m hi h0 h1
          rw [eq_l03_count_3h]
          have : ¬ i < t.kids.length := by omega
          exact ⟨m, by simp [this], h0, by omega⟩
        | succ k ihk =>
          intro i m hi h0 h1
          have h : i < t.kids.length := by omega
          rw [eq_l03_count_3h]
          by_cases hm : m ≤ 600
          · obtain ⟨r, hr, hr0, hr1⟩ := ih _ (List.getElem_mem h) m (Ty.thin_kid ht (List.getElem_mem h)) h0 (by omega)
            obtain ⟨s, hs, hs0, hs1⟩ := ihk (i + 1) r (by omega) hr0 (by omega)
            push_cast at hs
            exact ⟨s, by simp [h, hm, dIdx_map h, Ty.eta, hr, dAdd1 (show i < 9223372036854775807 by omega), hs], hs0, by omega⟩
          · exact ⟨m, by simp [h, hm], h0, by omega⟩
      exact fun m h0 h1 => key t.kids.length 0 m (by omega) h0 h1
    obtain ⟨r, hr, hr0, hr1⟩ := loop (n + 1) (by omega) (by omega)
    refine ⟨r, call_l03_count _ _ ?_, hr0, hr1⟩
    rw [eq_l03_count]
    simp
    rw [dAdd (by omega) (by omega)]
    simpa using hr

theorem sp_l03_Heavy1 (t : Ty) (ht : t.thin = true) : ∃ b : Bool, (run cfg).p F_l03_Heavy [.list 3 [t.enc]] = some (.bool b) := by
  obtain ⟨m, h1, h2, h3⟩ := sp_l03_count t 0 ht (by omega) (by omega)
  refine ⟨decide (600 < m), call_l03_Heavy _ ?_⟩
  rw [eq_l03_Heavy, eq_l03_Heavy_3h]
  have e0 : dIdx 3 (.list 3 [t.enc]) (.int .i64 0) = some t.enc := by simp [dIdx]
  simp [e0, Ty.eta, h1, dAdd (show (-9223372036854775808 : Int) ≤ 0 + 1 by omega) (by omega)]
  rw [eq_l03_Heavy_3h]
  simp

theorem sp_r08_Deep (t : Ty) : ∀ n : Int, -9223372036854775000 ≤ n → n ≤ 1000 → t.thin = true → (run cfg).p F_r08_Deep [t.enc, .int .i64 n] = some (.bool (t.deep n)) := by
  induction t using Ty.ind with
  | h t ih =>
    intro n hn0 hn ht
    have hb := t.thin_len ht
    refine call_r08_Deep _ _ ?_
    rw [eq_r08_Deep, Ty.deep_eq]
    simp
    by_cases h0 : n ≤ 0
    · simp [h0]
    · have loop := loop_anyB (l := t.kids) (f := fun k => k.deep (n - 1)) (P := fun i => P_r08_Deep_4h (run cfg) (.int .i64 n) (.int .i64 i) t.enc)
        (by rw [eq_r08_Deep_4h]; simp)
        (fun i h => by
          rw [eq_r08_Deep_4h]
          simp [h, dIdx_map h, Ty.eta, dBin_sub, wrap_id (show (-9223372036854775808 : Int) ≤ n - 1 by omega) (by omega), ih _ (List.getElem_mem h) (n - 1) (by omega) (by omega) (Ty.thin_kid ht (List.getElem_mem h)), dAdd1 (show i < 9223372036854775807 by omega)])
      simp only [h0, decide_false, Bool.false_or]
      exact loop

theorem sp_word_Key (s : ByteArray) : (run cfg).p F_word_Key [.str s] = some (.bool (keyB s)) := by
  refine call_word_Key _ ?_
  rw [eq_word_Key]
  have e : ∀ l : List UInt8, (s = ⟨l.toArray⟩) ↔ s.data.toList = l := fun l => by
    constructor
    · rintro rfl; simp
    · intro h; cases s; simp only [ByteArray.mk.injEq]; exact Array.ext' (by simpa using h)
  simp only [dBin_seql, ob_some', oif_bool]
  simp only [e, keyB, keyL, List.mem_cons, List.not_mem_nil, or_false]
  simp only [decide_eq_true_eq, ite_s, ite_db, Bool.if_true_left, Bool.decide_or, Bool.or_false]

theorem sp_word_inner (c : Int) : (run cfg).p F_word_inner [.int .u8 c] = some (.bool (partB c)) := by
  refine call_word_inner _ ?_
  rw [eq_word_inner]
  simp only [dBin_geq, dBin_leq, dBin_eql, ob_some', ogd_bool, decide_eq_true_eq, partB, lowerB, digitB]
  by_cases h1 : 97 ≤ c <;> by_cases h2 : c ≤ 122 <;> by_cases h3 : 65 ≤ c <;> by_cases h4 : c ≤ 90 <;> by_cases h5 : 48 ≤ c <;> by_cases h6 : c ≤ 57 <;> by_cases h7 : c = 95 <;> simp [h1, h2, h3, h4, h5, h6, h7]

theorem sp_r01_lower (c : Int) : (run cfg).p F_r01_lower [.int .u8 c] = some (.bool (lowerB c)) := by
  refine call_r01_lower _ ?_
  rw [eq_r01_lower]
  simp only [dBin_geq, dBin_leq, ob_some', ogd_bool, decide_eq_true_eq, lowerB]
  by_cases h1 : 97 ≤ c <;> simp [h1]

theorem sp_r01_digit (c : Int) : (run cfg).p F_r01_digit [.int .u8 c] = some (.bool (digitB c)) := by
  refine call_r01_digit _ ?_
  rw [eq_r01_digit]
  simp only [dBin_geq, dBin_leq, ob_some', ogd_bool, decide_eq_true_eq, digitB]
  by_cases h1 : 48 ≤ c <;> simp [h1]

theorem sp_r01_part (c : Int) : (run cfg).p F_r01_part [.int .u8 c] = some (.bool (partB c)) := by
  refine call_r01_part _ ?_
  rw [eq_r01_part]
  simp only [dBin_geq, dBin_leq, dBin_eql, ob_some', ogd_bool, decide_eq_true_eq, sp_r01_lower, sp_r01_digit, partB]
  by_cases h1 : lowerB c = true <;> by_cases h2 : digitB c = true <;> by_cases h3 : 65 ≤ c <;> by_cases h4 : c ≤ 90 <;> by_cases h7 : c = 95 <;> simp [h1, h2, h3, h4, h7]

theorem str_big {s : ByteArray} (h : s.size ≤ lim) : (bts s).length < 4294967297 := by rw [bts_len]; exact big h

theorem sp_word_Name (s : ByteArray) (hs : s.size ≤ lim) : (run cfg).p F_word_Name [.str s] = some (.bool (nameB s)) := by
  have hb := str_big hs
  refine call_word_Name _ ?_
  rw [eq_word_Name]
  simp only [dLenS_str, ob_some', dBin_lss, dBin_gtr, ogd_bool, oif_bool, decide_eq_true_eq, nameB, ← bts_len]
  by_cases h1 : ((bts s).length : Int) < 1
  · have : ¬ (1 ≤ (bts s).length) := by omega
    simp [h1, this]
  · by_cases h2 : (32 : Int) < ((bts s).length : Int)
    · have : ¬ ((bts s).length ≤ 32) := by omega
      simp [h1, h2, this]
    · have h0 : 0 < (bts s).length := by omega
      have e0 := dStr_idx (s := s) (k := .i64) h0
      simp only [Int.natCast_zero, Int.ofNat_zero, Int.cast_ofNat_Int] at e0
      have loop : ∀ (k i : Nat), i + k = (bts s).length → P_word_Name_4h (run cfg) (.str s) (.int .i64 i) = some (.bool (((bts s).drop i).all partB)) := by
        intro k
        induction k with
        | zero =>
          intro i hi
          rw [eq_word_Name_4h]
          have : ¬ i < (bts s).length := by omega
          simp [← bts_len, this, List.drop_of_length_le (show (bts s).length ≤ i by omega)]
        | succ k ih =>
          intro i hi
          have h : i < (bts s).length := by omega
          rw [eq_word_Name_4h]
          have := ih (i + 1) (by omega)
          push_cast at this
          have hlt : (i : Int) < (s.size : Int) := by rw [← bts_len]; omega
          rw [List.drop_eq_getElem_cons h, List.all_cons]
          simp only [dLenS_str, ob_some', dBin_lss, hlt, decide_true, oif_bool, if_true, dStr_idx h, sp_word_inner, dUn_not, dAdd1 (show i < 9223372036854775807 by omega)]
          push_cast
          rw [this]
          cases partB (bts s)[i] <;> rfl
      have l1 := loop ((bts s).length - 1) 1 (by omega)
      simp only [Int.natCast_one, Int.ofNat_one, Int.cast_ofNat_Int] at l1
      have g0 : (bts s).getD 0 0 = (bts s)[0] := by simp [List.getD_eq_getElem?_getD, h0]
      have d0 : bts s = (bts s)[0] :: (bts s).drop 1 := by
        have := List.drop_eq_getElem_cons h0
        simpa using this
      have a1 : (1 ≤ (bts s).length) := by omega
      have a2 : ((bts s).length ≤ 32) := by omega
      have e0' : dStrIdx (.str s) (.int .i64 0) = some (.int .u8 (bts s)[0]) := e0
      simp only [h1, h2, if_false, e0', ob_some', dBin_lss, dBin_gtr, ogd_bool, decide_eq_true_eq, sp_word_Key, oif_bool, g0, a1, a2, decide_true, Bool.true_and]
      by_cases h3 : (bts s)[0] < 97
      · have : lowerB (bts s)[0] = false := by simp [lowerB]; omega
        simp [h3, this]
      · by_cases h4 : (122 : Int) < (bts s)[0]
        · have : lowerB (bts s)[0] = false := by simp [lowerB]; omega
          simp [h3, h4, this]
        · have h5 : lowerB (bts s)[0] = true := by simp [lowerB]; omega
          have h6 : partB (bts s)[0] = true := by simp [partB, h5]
          have h7 : (bts s).all partB = ((bts s).drop 1).all partB := by
            conv => lhs; rw [d0]
            simp [h6]
          cases hk : keyB s
          · simp only [h3, h4, if_false, Bool.false_eq_true, h5, h7, Bool.true_and, Bool.not_false, Bool.and_true]
            exact l1
          · simp [h3, h4]

open Classical in
theorem sp_r01_Key (s : ByteArray) (hs : s.size ≤ 4294967000) : (run cfg).p F_r01_Key [.str s] = some (.bool (keyB s)) := by
  have hb : (bts s).length ≤ 4294967000 := by rw [bts_len]; exact hs
  refine call_r01_Key _ ?_
  rw [eq_r01_Key]
  let t : ByteArray := ⟨#[32]⟩ ++ s ++ ⟨#[32]⟩
  have tl : t.data.toList = 32 :: s.data.toList ++ [32] := by simp [t]
  have ts : t.size = s.size + 2 := by
    have := congrArg List.length tl
    simp only [Array.length_toList, List.length_append, List.length_cons, List.length_nil] at this
    have e1 : t.size = t.data.size := rfl
    have e2 : s.size = s.data.size := rfl
    omega
  -- the search
  have search : ∀ (k i : Nat), i + k = 82 → P_r01_Key_8h (run cfg) (.str s) (.str t) (.int .i64 i) = some (.bool (decide (0 < s.size ∧ ∃ j, i ≤ j ∧ j + t.size ≤ 81 ∧ (wordsL.drop j).take t.size = t.data.toList))) := by
    intro k
    induction k with
    | zero =>
      intro i hi
      rw [eq_r01_Key_8h]
      simp only [dLenS_str, ob_some']
      rw [dAdd (by omega) (by omega)]
      have : ¬ ((i : Int) + (t.size : Int) ≤ 81) := by omega
      have h2 : ¬ (0 < s.size ∧ ∃ j, i ≤ j ∧ j + t.size ≤ 81 ∧ (wordsL.drop j).take t.size = t.data.toList) := by rintro ⟨-, j, h1, h2, -⟩; omega
      simp [this, h2]
    | succ k ih =>
      intro i hi
      rw [eq_r01_Key_8h]
      simp only [dLenS_str, ob_some']
      rw [dAdd (by omega) (by omega)]
      by_cases h1 : (i : Int) + (t.size : Int) ≤ 81
      · have h1' : i + t.size ≤ 81 := by omega
        have nx := ih (i + 1) (by omega)
        simp only [dBin_leq, h1, decide_true, ob_some', oif_bool, if_true, dBin_gtr, ogd_bool, decide_eq_true_eq]
        rw [show ((i + 1 : Nat) : Int) = (i : Int) + 1 by omega] at nx
        by_cases h0 : (0 : Int) < (s.size : Int)
        · have h0' : 0 < s.size := by omega
          have ext : ∀ w : ByteArray, w.data.toList = wordsL → dSliceS (.str w) (some (.int .i64 (i : Int))) (some (.int .i64 ((i : Int) + (t.size : Int)))) = some (.str (w.extract i (i + t.size))) := by
            intro w hw
            have hwl : w.size = 81 := by
              have := congrArg List.length hw
              rw [words_len] at this
              simpa using this
            have e1 : ((i : Int) + (t.size : Int)).toNat = i + t.size := by omega
            simp only [dSliceS, bnd, ob_some', e1, show (0 : Int) ≤ (i : Int) + (t.size : Int) by omega, if_true, Int.natCast_nonneg, Int.toNat_natCast, hwl]
            rw [if_pos (by omega)]
          simp only [h0, if_true]
          rw [ext _ rfl]
          simp only [ob_some', dBin_seql, oif_bool, decide_eq_true_eq]
          rw [dAdd1 (by omega)]
          simp only [ob_some']
          rw [show ((i + 1 : Nat) : Int) = (i : Int) + 1 by omega, nx]
          have exl : ∀ w : ByteArray, w.data.toList = wordsL → ((w.extract i (i + t.size) = t) ↔ (wordsL.drop i).take t.size = t.data.toList) := by
            intro w hw
            have e : (w.extract i (i + t.size)).data.toList = (wordsL.drop i).take t.size := by
              rw [ByteArray.data_extract, Array.toList_extract, hw, List.extract_eq_take_drop]
              congr 1
              omega
            rw [← e]
            constructor
            · intro h; rw [h]
            · intro h
              cases hx : w.extract i (i + t.size)
              rw [hx] at h
              cases ht : t
              rw [ht] at h
              simp only [ByteArray.mk.injEq]
              exact Array.ext' h
          by_cases h2 : (wordsL.drop i).take t.size = t.data.toList
          · rw [if_pos ((exl _ rfl).2 h2)]
            have : (0 < s.size ∧ ∃ j, i ≤ j ∧ j + t.size ≤ 81 ∧ (wordsL.drop j).take t.size = t.data.toList) := ⟨h0', i, Nat.le_refl _, h1', h2⟩
            simp [this]
          · rw [if_neg (fun h => h2 ((exl _ rfl).1 h))]
            congr 2
            rw [Bool.eq_iff_iff]
            simp only [decide_eq_true_eq]
            constructor
            · rintro ⟨a, j, b, c⟩; exact ⟨a, j, by omega, c⟩
            · rintro ⟨a, j, b, c, d⟩
              refine ⟨a, j, ?_, c, d⟩
              rcases Nat.lt_or_ge i j with h | h
              · exact h
              · exact absurd (by rw [show i = j by omega]; exact d) h2
        · have : ¬ (0 < s.size ∧ ∃ j, i ≤ j ∧ j + t.size ≤ 81 ∧ (wordsL.drop j).take t.size = t.data.toList) := fun h => h0 (by have := h.1; omega)
          have this' : ¬ (0 < s.size ∧ ∃ j, i + 1 ≤ j ∧ j + t.size ≤ 81 ∧ (wordsL.drop j).take t.size = t.data.toList) := fun h => h0 (by have := h.1; omega)
          simp only [h0, if_false]
          rw [dAdd1 (by omega)]
          simp only [ob_some']
          rw [show ((i + 1 : Nat) : Int) = (i : Int) + 1 by omega, nx]
          simp [this, this']
      · have h2 : ¬ (0 < s.size ∧ ∃ j, i ≤ j ∧ j + t.size ≤ 81 ∧ (wordsL.drop j).take t.size = t.data.toList) := by rintro ⟨-, j, h3, h4, -⟩; omega
        simp [h1, h2]
  have fin : (s.data.toList.all low8 = true ∧ 0 < s.size ∧ ∃ j, 0 ≤ j ∧ j + t.size ≤ 81 ∧ (wordsL.drop j).take t.size = t.data.toList) ↔ s.data.toList ∈ keyL := by
    rw [← words_key]
    have e2 : s.data.toList.length = s.size := by simp
    rw [e2, ts, tl]
    simp
  have low : ∀ b : UInt8, lowerB (b.toNat : Int) = low8 b := by
    intro b
    simp only [lowerB, low8, UInt8.le_iff_toNat_le]
    rw [Bool.eq_iff_iff]
    simp only [Bool.and_eq_true, decide_eq_true_eq]
    have h1 : (97 : UInt8).toNat = 97 := rfl
    have h2 : (122 : UInt8).toNat = 122 := rfl
    rw [h1, h2]
    omega
  have loop : ∀ (k i : Nat), i + k = (bts s).length → P_r01_Key_2h (run cfg) (.str s) (.int .i64 i) = some (.bool (decide (((bts s).drop i).all lowerB = true ∧ 0 < s.size ∧ ∃ j, 0 ≤ j ∧ j + t.size ≤ 81 ∧ (wordsL.drop j).take t.size = t.data.toList))) := by
    intro k
    induction k with
    | zero =>
      intro i hi
      rw [eq_r01_Key_2h]
      have hlt : ¬ (i : Int) < (s.size : Int) := by rw [← bts_len]; omega
      have e1 : dBin .add (.str ⟨#[32]⟩) (.str s) = some (.str (⟨#[32]⟩ ++ s)) := by
        simp only [dBin, dStrOp]
        rw [if_pos]
        have : (⟨#[32]⟩ : ByteArray).size = 1 := rfl
        unfold lim; omega
      have e2 : dBin .add (.str (⟨#[32]⟩ ++ s)) (.str ⟨#[32]⟩) = some (.str t) := by
        simp only [dBin, dStrOp]
        rw [if_pos]
        have h1 : (⟨#[32]⟩ : ByteArray).size = 1 := rfl
        have h2 : (⟨#[32]⟩ ++ s : ByteArray).size = s.size + 1 := by
          have := ByteArray.size_append (a := ⟨#[32]⟩) (b := s)
          omega
        unfold lim; omega
      have := search 82 0 rfl
      simp only [Int.natCast_zero, Int.ofNat_zero, Int.cast_ofNat_Int] at this
      simp only [dLenS_str, ob_some', dBin_lss, hlt, decide_false, oif_bool, Bool.false_eq_true, if_false, e1, e2, List.drop_of_length_le (show (bts s).length ≤ i by omega), List.all_nil, true_and]
      exact this
    | succ k ih =>
      intro i hi
      have h : i < (bts s).length := by omega
      rw [eq_r01_Key_2h]
      have := ih (i + 1) (by omega)
      push_cast at this
      have hlt : (i : Int) < (s.size : Int) := by rw [← bts_len]; omega
      rw [List.drop_eq_getElem_cons h, List.all_cons]
      simp only [dLenS_str, ob_some', dBin_lss, hlt, decide_true, oif_bool, if_true, dStr_idx h, sp_r01_lower, dUn_not, dAdd1 (show i < 9223372036854775807 by omega)]
      push_cast
      rw [this]
      cases lowerB (bts s)[i] <;> simp
  have l0 := loop (bts s).length 0 (by omega)
  simp only [Int.natCast_zero, Int.ofNat_zero, Int.cast_ofNat_Int] at l0
  have e3 : (bts s).all lowerB = s.data.toList.all low8 := by
    simp only [bts, List.all_map]
    congr 1
    funext b
    exact low b
  refine l0.trans ?_
  rw [List.drop_zero, e3]
  simp only [fin, keyB]

theorem sp_r01_Name (s : ByteArray) (hs : s.size ≤ 4294967000) : (run cfg).p F_r01_Name [.str s] = some (.bool (nameB s)) := by
  have hb := str_big (s := s) (by unfold lim; omega)
  refine call_r01_Name _ ?_
  rw [eq_r01_Name]
  have h32 : dBin .gtr (.int .i64 (s.size : Int)) (.int .i64 32) = some (.bool (decide (32 < s.size))) := by
    rw [dBin_gtr]; congr 2; rw [decide_eq_decide]; omega
  simp only [dLenS_str, ob_some', dBin_lss, h32, ogd_bool, oif_bool, decide_eq_true_eq, nameB]
  by_cases h1 : (s.size : Int) < 1
  · have : ¬ (1 ≤ s.size) := by omega
    simp [h1, this]
  · by_cases h2 : 32 < s.size
    · have : ¬ (s.size ≤ 32) := by omega
      simp [h1, h2, this]
    · have h0 : 0 < (bts s).length := by rw [bts_len]; omega
      have loop : ∀ (k i : Nat), i + k = (bts s).length → P_r01_Name_4h (run cfg) (.str s) (.int .i64 i) = some (.bool (((bts s).drop i).all partB && !keyB s)) := by
        intro k
        induction k with
        | zero =>
          intro i hi
          rw [eq_r01_Name_4h]
          have hlt : ¬ (i : Int) < (s.size : Int) := by rw [← bts_len]; omega
          simp [hlt, List.drop_of_length_le (show (bts s).length ≤ i by omega), sp_r01_Key s hs]
        | succ k ih =>
          intro i hi
          have h : i < (bts s).length := by omega
          rw [eq_r01_Name_4h]
          have := ih (i + 1) (by omega)
          push_cast at this
          have hlt : (i : Int) < (s.size : Int) := by rw [← bts_len]; omega
          rw [List.drop_eq_getElem_cons h, List.all_cons]
          simp only [dLenS_str, ob_some', dBin_lss, hlt, decide_true, oif_bool, if_true, dStr_idx h, sp_r01_part, dUn_not, dAdd1 (show i < 9223372036854775807 by omega)]
          push_cast
          rw [this]
          cases partB (bts s)[i] <;> rfl
      have l0 := loop (bts s).length 0 (by omega)
      simp only [Int.natCast_zero, Int.ofNat_zero, Int.cast_ofNat_Int, List.drop_zero] at l0
      have g0 : (bts s).getD 0 0 = (bts s)[0] := by simp [List.getD_eq_getElem?_getD, h0]
      have e0' : dStrIdx (.str s) (.int .i64 0) = some (.int .u8 (bts s)[0]) := dStr_idx (s := s) (k := .i64) h0
      have a1 : (1 ≤ s.size) := by omega
      have a2 : (s.size ≤ 32) := by omega
      simp only [h1, h2, if_false, e0', ob_some', sp_r01_lower, dUn_not, oif_bool, g0, a1, a2, decide_true, Bool.true_and, l0]
      cases lowerB (bts s)[0] <;> simp

theorem nil_str : (.str ⟨#[]⟩ : DV) = .str nil8 := rfl

theorem sp_tree_onePat (p : Pat) (hp : p.texts) : (run cfg).p F_tree_onePat [p.enc] = some (.bool p.one) := by
  obtain ⟨hn, hs⟩ := hp
  have h24 : ∀ (t4 : Int) (a b c g : DV) (nm : ByteArray) (n : Int) (s : ByteArray), P_tree_onePat_24 (run cfg) (.int .i64 t4) p.enc a b c (.str nm) (.int .i64 n) (.str s) g =
      some (.bool (decide ((p.kids.length : Int) = t4) && decide (nm = p.name) && decide (n = p.n) && decide (s = p.s))) := by
    intro t4 a b c g nm n s
    rw [eq_tree_onePat_24]
    simp only [Pat.proj6, Pat.proj3, Pat.proj4, Pat.proj5, dLen_list, List.length_map, ob_some', dBin_eql, dBin_seql, ogd_bool, decide_eq_true_eq]
    by_cases h1 : (p.kids.length : Int) = t4 <;> by_cases h2 : nm = p.name <;> by_cases h3 : n = p.n <;> simp [h1, h2, h3]
  refine call_tree_onePat _ ?_
  rw [eq_tree_onePat]
  have hs' : dBin .gtr (.int .i64 (p.s.size : Int)) (.int .i64 200) = some (.bool (decide (200 < p.s.size))) := by
    rw [dBin_gtr]; congr 2; rw [decide_eq_decide]; omega
  simp only [isAggN_Pat, og_true', Pat.proj0, Pat.proj1, Pat.proj2, Pat.proj3, Pat.proj4, Pat.proj5, Pat.proj6, isCell_int, isCell_str, isCell_list, dBin_eql, dBin_neq, ob_some', oif_bool, ogd_bool, sp_word_Name p.name (by unfold lim; omega), dUn_not, dLenS_str, hs', h24, nil_str]
  unfold Pat.one
  by_cases k1 : p.kind = 1
  · simp [k1, eq_comm]
  by_cases k6 : p.kind = 6
  · simp [k6, eq_comm]
  by_cases k8 : p.kind = 8
  · simp [k8, eq_comm]
  by_cases k2 : p.kind = 2
  · cases hnm : nameB p.name <;> simp [k2, hnm, eq_comm]
  by_cases k3 : p.kind = 3
  · simp [k3, eq_comm]
  by_cases k4 : p.kind = 4
  · by_cases n0 : p.n = 0
    · simp [k4, n0, eq_comm]
    · by_cases n1 : p.n = 1 <;> simp [k4, n0, n1, eq_comm]
  by_cases k5 : p.kind = 5
  · by_cases h : 200 < p.s.size
    · have : ¬ p.s.size ≤ 200 := by omega
      simp [k5, h, this]
    · have : p.s.size ≤ 200 := by omega
      simp [k5, h, this, eq_comm]
  have h2 : decide (2 = (p.kids.length : Int)) = decide (2 = p.kids.length) := by rw [decide_eq_decide]; omega
  by_cases k7 : p.kind = 7
  · simp [k7, eq_comm, h2]
  by_cases k9 : p.kind = 9
  · simp [k9, eq_comm, h2]
  simp [k1, k2, k3, k4, k5, k6, k7, k8, k9]

theorem sp_r05_pat (p : Pat) : p.thin = true → p.txt → (run cfg).p F_r05_pat [p.enc] = some (.bool p.pat) := by
  induction p using Pat.ind with
  | h p ih =>
    intro ht hx
    have hb := p.thin_len ht
    obtain ⟨hn, hs⟩ := hx p p.self_sub
    have loop : P_r05_pat_28h (run cfg) (.int .i64 p.kids.length) (.int .i64 0) p.enc = some (.bool (p.kids.all Pat.pat)) :=
      loop_allB (l := p.kids) (f := Pat.pat) (P := fun i => P_r05_pat_28h (run cfg) (.int .i64 p.kids.length) (.int .i64 i) p.enc)
        (by rw [eq_r05_pat_28h]; simp)
        (fun i h => by
          rw [eq_r05_pat_28h]
          simp [h, dIdx_map h, Pat.eta, ih _ (List.getElem_mem h) (Pat.thin_kid ht (List.getElem_mem h)) (Pat.txt_kid hx (List.getElem_mem h)), dAdd1 (show i < 9223372036854775807 by omega)]
          cases p.kids[i].pat <;> rfl)
    have h25 : ∀ (t4 : Int) (a b c g : DV) (nm : ByteArray) (n : Int) (s : ByteArray), P_r05_pat_25 (run cfg) (.int .i64 t4) p.enc a b c (.str nm) (.int .i64 n) (.str s) g =
        some (.bool ((decide ((p.kids.length : Int) = t4) && decide (p.name = nm) && decide (p.n = n) && decide (p.s = s)) && p.kids.all Pat.pat)) := by
      intro t4 a b c g nm n s
      rw [eq_r05_pat_25]
      simp only [Pat.proj6, Pat.proj3, Pat.proj4, Pat.proj5, dLen_list, List.length_map, ob_some', dBin_neq, dBin_sneq, ogd_bool, oif_bool, decide_eq_true_eq]
      by_cases h1 : (p.kids.length : Int) = t4 <;> by_cases h2 : p.name = nm <;> by_cases h3 : p.n = n <;> by_cases h4 : p.s = s <;> simp [h1, h2, h3, h4]
      rw [← h1]
      rw [loop]
    refine call_r05_pat _ ?_
    rw [eq_r05_pat]
    have hs' : dBin .gtr (.int .i64 (p.s.size : Int)) (.int .i64 200) = some (.bool (decide (200 < p.s.size))) := by
      rw [dBin_gtr]; congr 2; rw [decide_eq_decide]; omega
    simp only [isAggN_Pat, og_true', Pat.proj0, Pat.proj1, Pat.proj2, Pat.proj3, Pat.proj4, Pat.proj5, Pat.proj6, isCell_int, isCell_str, isCell_list, dBin_eql, dBin_neq, dBin_lss, dBin_gtr, ob_some', oif_bool, ogd_bool, sp_r01_Name p.name hn, dUn_not, dLenS_str, h25, nil_str]
    rw [Pat.pat_eq]
    unfold Pat.one
    by_cases k1 : p.kind = 1
    · simp [k1]
    by_cases k6 : p.kind = 6
    · simp [k6]
    by_cases k8 : p.kind = 8
    · simp [k8]
    by_cases k2 : p.kind = 2
    · cases hnm : nameB p.name <;> simp [k2, hnm]
    by_cases k3 : p.kind = 3
    · simp [k3]
    by_cases k4 : p.kind = 4
    · by_cases n0 : p.n < 0
      · have h1 : ¬ (p.n = 0 ∨ p.n = 1) := by omega
        simp [k4, n0, h1]
      · by_cases n1 : 1 < p.n
        · have h1 : ¬ (p.n = 0 ∨ p.n = 1) := by omega
          simp [k4, n0, n1, h1]
        · have h1 : (p.n = 0 ∨ p.n = 1) := by omega
          simp [k4, n0, n1, h1]
    by_cases k5 : p.kind = 5
    · by_cases h : (200 : Int) < (p.s.size : Int)
      · have : ¬ p.s.size ≤ 200 := by omega
        simp [k5, h, this]
      · have : p.s.size ≤ 200 := by omega
        simp [k5, h, this]
    by_cases k7 : p.kind = 7
    · simp [k7]
      have : ((p.kids.length : Int) = 2) ↔ (p.kids.length = 2) := by omega
      simp [this]
    by_cases k9 : p.kind = 9
    · simp [k9]
      have : ((p.kids.length : Int) = 2) ↔ (p.kids.length = 2) := by omega
      simp [this]
    simp [k1, k2, k3, k4, k5, k6, k7, k8, k9]

theorem sp_r05_names (t : Pat) : ∀ (l : List ByteArray) (sg : List SObj), l.length + t.size ≤ lim → (run cfg).r F_r05_names [(t.enc, .val), (encStrs l, .own)] sg = some ([encStrs (t.namesOn l)], sg) := by
  induction t using Pat.ind with
  | h t ih =>
    intro l sg hl
    have hb := Pat.thin_len _ (Pat.thin_of_size (show t.size ≤ lim by omega))
    have hB := big hl
    refine call_r05_names _ _ _ ?_
    have loop : ∀ l : List ByteArray, l.length + (t.kids.map Pat.size).sum ≤ lim → P_r05_names_4h (run cfg) (encStrs l) (.int .i64 0) t.enc sg = some ([encStrs (t.kids.foldl (fun l k => k.namesOn l) l)], sg) :=
      loop_fold (l := t.kids) (P := fun i (a : List ByteArray) => P_r05_names_4h (run cfg) (encStrs a) (.int .i64 i) t.enc sg) (g := fun a k => k.namesOn a) (fin := fun a => some ([encStrs a], sg))
        (I := fun i a => a.length + ((t.kids.drop i).map Pat.size).sum ≤ lim)
        (fun a _ => by rw [eq_r05_names_4h]; simp)
        (fun i h a ha => by
          rw [List.drop_eq_getElem_cons h, List.map_cons, List.sum_cons] at ha
          have h1 := Pat.namesOn_len t.kids[i] a
          refine ⟨?_, by omega⟩
          rw [eq_r05_names_4h]
          simp [h, dIdx_map h, Pat.eta, ih _ (List.getElem_mem h) a sg (by omega), dAdd1 (show i < 9223372036854775807 by omega)])
    have hsz := Pat.size_eq t
    rw [eq_r05_names, Pat.namesOn_eq]
    simp
    by_cases h6 : t.kind = 2
    · simp [h6]
      rw [show encStrs l = .list 1 (l.map fun n => .str n) from rfl, dApp_list (by simp; omega)]
      have := loop (l ++ [t.name]) (by simp; omega)
      simpa [encStrs] using this
    · simp [h6, loop l (by omega)]

theorem sp_r05_Names (t : Pat) (ht : t.size ≤ lim) : (run cfg).p F_r05_Names [t.enc] = some (encStrs t.names) := by
  refine call_r05_Names _ ?_
  rw [eq_r05_Names]
  have := sp_r05_names t [] [] (by simpa using ht)
  have e : encStrs [] = .list 1 [] := rfl
  rw [e] at this
  simp [Pat.eta, this, Pat.names]

def hasS (l : List ByteArray) (n : ByteArray) : Bool := l.any fun x => decide (x = n)

theorem hasS_iff {l : List ByteArray} {n : ByteArray} : hasS l n = true ↔ n ∈ l := by simp [hasS]

theorem sp_r05_Has (l : List ByteArray) (hl : l.length ≤ lim) (n : ByteArray) : (run cfg).p F_r05_Has [encStrs l, .str n] = some (.bool (hasS l n)) := by
  have hb := big hl
  refine call_r05_Has _ _ ?_
  rw [eq_r05_Has]
  have loop := loop_anyB (l := l) (f := fun x => decide (x = n)) (P := fun i => P_r05_Has_2h (run cfg) (encStrs l) (.str n) (.int .i64 i))
    (by rw [eq_r05_Has_2h]; simp)
    (fun i h => by
      rw [eq_r05_Has_2h]
      simp [h, dIdx_strs h, dAdd1 (show i < 9223372036854775807 by omega)])
  exact loop

theorem dSlice_pre {α : Type} {e : α → DV} {l : List α} {i : Nat} (h : i ≤ l.length) (sz : Nat) : dSlice sz (.list sz (l.map e)) none (some (.int .i64 (i : Int))) = some (.list sz ((l.take i).map e)) := by
  simp [dSlice, bnd, h, List.map_take]

theorem nodup_scan {α : Type} [DecidableEq α] (l : List α) : (∀ (i : Nat) (h : i < l.length), l[i] ∉ l.take i) ↔ l.Nodup := by
  constructor
  · intro h
    rw [List.nodup_iff_pairwise_ne, List.pairwise_iff_getElem]
    intro i j hi hj hij he
    exact h j hj (by rw [← he]; exact List.mem_take_iff_getElem.2 ⟨i, by omega, rfl⟩)
  · intro h i hi hm
    obtain ⟨j, hj, he⟩ := List.mem_take_iff_getElem.1 hm
    rw [List.nodup_iff_pairwise_ne, List.pairwise_iff_getElem] at h
    exact h j i (by omega) hi (by omega) he

open Classical in
theorem sp_r05_RightPat (p : Pat) (ht : p.size ≤ lim) (hx : p.txt) : (run cfg).p F_r05_RightPat [p.enc] = some (.bool p.right) := by
  refine call_r05_RightPat _ ?_
  rw [eq_r05_RightPat]
  have hnl : p.names.length ≤ lim := by have := Pat.namesOn_len p []; simp at this; unfold Pat.names; omega
  have hb := big hnl
  simp [Pat.eta, sp_r05_pat p (Pat.thin_of_size ht) hx, sp_r05_Names p ht, Pat.right]
  cases hp : p.pat
  · simp
  · simp
    have loop : ∀ (k i : Nat), i + k = p.names.length → P_r05_RightPat_5h (run cfg) (encStrs p.names) (.int .i64 i) = some (.bool (decide (∀ j (h : j < p.names.length), i ≤ j → p.names[j] ∉ p.names.take j))) := by
      intro k
      induction k with
      | zero =>
        intro i hi
        rw [eq_r05_RightPat_5h]
        have : ¬ i < p.names.length := by omega
        have h2 : ∀ j (h : j < p.names.length), i ≤ j → p.names[j] ∉ p.names.take j := fun j h h' => by omega
        simp [this]
        exact h2
      | succ k ih =>
        intro i hi
        have h : i < p.names.length := by omega
        have nx := ih (i + 1) (by omega)
        push_cast at nx
        rw [eq_r05_RightPat_5h]
        have sl : dSlice 1 (encStrs p.names) none (some (.int .i64 (i : Int))) = some (encStrs (p.names.take i)) := dSlice_pre (by omega) 1
        simp [h, sl, dIdx_strs h, sp_r05_Has (p.names.take i) (by simp; omega), dAdd1 (show i < 9223372036854775807 by omega), nx]
        by_cases hm : p.names[i] ∈ p.names.take i
        · simp only [hasS_iff.2 hm, if_true]
          congr 2
          symm
          rw [decide_eq_false_iff_not]
          exact fun hh => hh i h (Nat.le_refl _) hm
        · have hm' : ¬ (hasS (p.names.take i) p.names[i] = true) := fun h => hm (hasS_iff.1 h)
          have hm'' : hasS (p.names.take i) p.names[i] = false := by simpa using hm'
          simp only [hm'', Bool.false_eq_true, if_false]
          congr 2
          rw [decide_eq_decide]
          constructor
          · intro hh j hj hij
            rcases Nat.lt_or_ge i j with h1 | h1
            · exact hh j hj h1
            · have : i = j := by omega
              subst this
              exact hm
          · intro hh j hj hij
            exact hh j hj (by omega)
    have l0 := loop p.names.length 0 (by omega)
    simp only [Int.natCast_zero, Int.ofNat_zero, Int.cast_ofNat_Int] at l0
    rw [l0]
    congr 2
    rw [decide_eq_decide, ← nodup_scan]
    simp

/-- How often a name has been seen. -/
def cntS (es : List (DV × DV)) (s : ByteArray) : DV := (mGet es (.str s)).getD (.int .i64 0)

def cpSg (a b c e : SObj) (n : Int) (es : List (DV × DV)) : List SObj := [a, .box [(.int .i64 n, .val)], .map true es, .box [(.undef, .map 2)], e]

theorem cp_end (t0 t6 : DV) (a b c e : SObj) (n : Int) (es : List (DV × DV)) : X_tree_CheckPat_r0 (run cfg) t0 t6 .ret (cpSg a b c e n es) = some (.int .i64 n) := by
  rw [eq_X_tree_CheckPat_r0_ret]
  rfl

theorem cp_norm (t0 t6 : DV) (a b c e : SObj) (n : Int) (es : List (DV × DV)) : X_tree_CheckPat_r0 (run cfg) t0 t6 .normal (cpSg a b c e n es) = some (.int .i64 0) := by
  rw [eq_X_tree_CheckPat_r0_normal]
  rfl

theorem cp_rounds (t0 t6 : DV) (a b c e : SObj) : ∀ (ps : List Pat) (pre : List ByteArray) (es : List (DV × DV)), (∀ q ∈ ps, q.texts) → pre.Nodup → (∀ s, cntS es s = .int .i64 (if hasS pre s = true then 1 else 0)) →
    I_tree_CheckPat_r0 (run cfg) t0 t6 (ps.map Pat.enc) (cpSg a b c e 0 es) = some (.int .i64 (if ps.all Pat.one = true ∧ (pre ++ ps.flatMap nmOf).Nodup then 0 else 1))
  | [], pre, es, _, hn, _ => by
    rw [List.map_nil, I_tree_CheckPat_r0_nil, cp_norm]
    simp [hn]
  | q :: ps, pre, es, hx, hn, hc => by
    rw [List.map_cons, I_tree_CheckPat_r0_cons, eq_B_tree_CheckPat_r0]
    have hq := hx q (List.mem_cons_self ..)
    simp only [isAggN_Pat, og_true', Pat.proj0, Pat.proj1, Pat.proj2, Pat.proj3, Pat.proj4, Pat.proj5, Pat.proj6, Pat.eta, sp_tree_onePat q hq, ob_some', dUn_not, ogd_bool, dBin_eql]
    have sg1 : sgBox (cpSg a b c e 0 es) 1 = some [(.int .i64 0, .val)] := rfl
    have sg3 : sgBox (cpSg a b c e 0 es) 3 = some [(.undef, .map 2)] := rfl
    have set1 : (cpSg a b c e 0 es).set 1 (.box ([((.int .i64 0 : DV), Meta.val)].set 0 (.int .i64 1, .val))) = cpSg a b c e 1 es := rfl
    have g0 : [((.int .i64 0 : DV), Meta.val)][0]? = some (.int .i64 0, .val) := rfl
    have cm : cellMap [((.undef : DV), Meta.map 2)] 0 = some 2 := rfl
    have sm : sgMap (cpSg a b c e 0 es) 2 = some (true, es) := rfl
    cases h1 : q.one
    · simp only [Bool.not_false, if_true, sg1, ob_some', g0, set1, cp_end]
      simp [h1]
    · simp only [Bool.not_true, Bool.false_eq_true, if_false]
      -- what follows
      have rest : ∀ (pre' : List ByteArray) (es' : List (DV × DV)), pre'.Nodup → (∀ s, cntS es' s = .int .i64 (if hasS pre' s = true then 1 else 0)) →
          I_tree_CheckPat_r0 (run cfg) t0 t6 (ps.map Pat.enc) (cpSg a b c e 0 es') = some (.int .i64 (if ps.all Pat.one = true ∧ (pre' ++ ps.flatMap nmOf).Nodup then 0 else 1)) :=
        fun pre' es' h h' => cp_rounds t0 t6 a b c e ps pre' es' (fun x hx' => hx x (List.mem_cons_of_mem _ hx')) h h'
      rw [eq_tree_CheckPat_6]
      simp only [Pat.proj0, Pat.proj3, dBin_eql, ob_some', oif_bool, decide_eq_true_eq]
      by_cases h2 : q.kind = 2
      · have hcq := hc q.name
        unfold cntS at hcq
        have sm' : (cpSg a b c e 0 es).set 2 (.map true (mSet es (.str q.name) (.int .i64 1))) = cpSg a b c e 0 (mSet es (.str q.name) (.int .i64 1)) := rfl
        simp only [h2, if_true, sg3, ob_some', cm, isKey_str, Bool.and_true, og_true', sm, BEq.rfl, hcq, dBin_gtr, oif_bool, decide_eq_true_eq]
        by_cases h3' : hasS pre q.name = true
        · have h3 := hasS_iff.1 h3'
          simp only [h3', if_true, show (0 : Int) < 1 by omega, decide_true, sg1, ob_some', g0, set1, cp_end]
          have : ¬ (pre ++ (q :: ps).flatMap nmOf).Nodup := by
            simp only [List.flatMap_cons, nmOf, h2, if_true, List.singleton_append, List.nodup_append]
            rintro ⟨-, -, h⟩
            exact h q.name h3 q.name (List.mem_cons_self ..) rfl
          rw [if_neg (fun h => this h.2)]
        · have h3 : q.name ∉ pre := fun h => h3' (hasS_iff.2 h)
          simp only [h3', if_false, show ¬ (0 : Int) < 0 by omega, decide_false, Bool.false_eq_true]
          rw [dAdd (by omega) (by omega)]
          simp only [ob_some', Int.zero_add]
          rw [sm', rest (pre ++ [q.name]) _ (by rw [List.nodup_append]; refine ⟨hn, by simp, ?_⟩; rintro x hx' y hy rfl; simp at hy; exact h3 (hy ▸ hx')) ?_]
          · simp [List.flatMap_cons, nmOf, h2, h1]
          · intro s
            unfold cntS
            rw [mGet_set]
            have := hc s
            unfold cntS at this
            by_cases h4 : q.name = s
            · have : hasS (pre ++ [q.name]) s = true := hasS_iff.2 (by simp [h4])
              rw [if_pos h4, if_pos this]
              rfl
            · have e : hasS (pre ++ [q.name]) s = hasS pre s := by simp [hasS, h4]
              simp only [if_neg h4, e]
              exact this
      · simp only [h2, if_false]
        rw [rest pre es hn hc]
        simp [List.flatMap_cons, nmOf, h2, h1]

theorem sp_tree_CheckPat (p : Pat) (ht : p.thin = true) (hx : p.txt) : (run cfg).p F_tree_CheckPat [p.enc] = some (.int .i64 (if p.right = true then 0 else 1)) := by
  refine call_tree_CheckPat _ ?_
  rw [eq_tree_CheckPat]
  simp only [isAggN_Pat, og_true', Pat.proj0, Pat.proj1, Pat.proj2, Pat.proj3, Pat.proj4, Pat.proj5, Pat.proj6, Pat.eta]
  rw [eq_tree_CheckPat_r0]
  obtain ⟨n, hn⟩ := flat_Pat p ht
  rw [Pat.enc_eq] at hn
  simp only [sgBox, List.getElem?_cons_succ, List.getElem?_cons_zero, ob_some', allDat, og_true', flatD_of hn]
  have := cp_rounds p.enc p.enc (.box [(.int .i64 p.kind, .val), (.int .i64 p.lo, .val), (.int .i64 p.hi, .val), (.str p.name, .val), (.int .i64 p.n, .val), (.str p.s, .val), (.list 7 (p.kids.map Pat.enc), .val)])
    (.arr 1 []) (.arr 1 []) (.arr 1 []) p.subs [] [] (fun q hq => hx q hq) (by simp) (fun s => rfl)
  refine this.trans ?_
  congr 2
  have e : p.right = true ↔ (p.subs.all Pat.one = true ∧ (([] : List ByteArray) ++ p.subs.flatMap nmOf).Nodup) := by
    unfold Pat.right Pat.names
    rw [Pat.pat_subs, Pat.namesOn_subs]
    simp
  by_cases h : p.right = true
  · rw [if_pos h, if_pos (e.1 h)]
  · rw [if_neg h, if_neg (fun h' => h (e.2 h'))]

@[simp] theorem dEqA_two (a b c d : Int) (k : IntKind) : dEqA [.int, .int] (.agg [.int k a, .int k b]) (.agg [.int k c, .int k d]) = some (decide (a = c) && decide (b = d)) := by
  simp only [dEqA, dEqLeaves, dEqK, if_true, ob_some']
  by_cases h : a = c <;> by_cases h' : b = d <;> simp [h, h']

theorem ite_andB (a b : Bool) : (if a = true then DV.bool b else DV.bool false) = DV.bool (a && b) := by cases a <;> rfl

theorem ite_andS (a b : Bool) : (if a = true then some (DV.bool b) else some (DV.bool false)) = some (DV.bool (a && b)) := by cases a <;> rfl

theorem sp_r05_SamePat (a : Pat) : a.thin = true → ∀ b : Pat, (run cfg).p F_r05_SamePat [a.enc, b.enc] = some (.bool (decide (a.bare = b.bare))) := by
  induction a using Pat.ind with
  | h a ih =>
    intro ha b
    have hb := a.thin_len ha
    refine call_r05_SamePat _ _ ?_
    rw [eq_r05_SamePat]
    simp
    by_cases h1 : a.kind = b.kind <;> simp [h1, Pat.ext_iff']
    by_cases h2 : a.name = b.name <;> simp [h2]
    by_cases h3 : a.n = b.n <;> simp [h3]
    by_cases h4 : a.s = b.s <;> simp [h4]
    by_cases h5 : a.kids.length = b.kids.length
    · have loop := loop_twoB (l := a.kids.map Pat.bare) (m := b.kids.map Pat.bare) (by simpa using h5) (P := fun i => P_r05_SamePat_4h (run cfg) (.int .i64 i) a.enc b.enc)
        (by rw [eq_r05_SamePat_4h]; simp [h5])
        (fun i h => by
          have h : i < a.kids.length := by simpa using h
          have h' : i < b.kids.length := by omega
          rw [eq_r05_SamePat_4h]
          simp [h, h', dIdx_map h, dIdx_map h', Pat.eta, ih _ (List.getElem_mem h) (Pat.thin_kid ha (List.getElem_mem h)), dAdd1 (show i < 9223372036854775807 by omega)])
      simp only [List.length_map, h5] at loop ⊢
      simp [loop]
    · have : a.kids.map Pat.bare ≠ b.kids.map Pat.bare := fun h => h5 (by have := congrArg List.length h; simpa using this)
      simp [Int.ofNat_inj, h5, this]

theorem sp_r05_patAt (a : Pat) : a.thin = true → ∀ b : Pat, a.bare = b.bare → (run cfg).p F_r05_patAt [a.enc, b.enc] = some (.bool (decide (a = b))) := by
  induction a using Pat.ind with
  | h a ih =>
    intro ha b he
    have hb := a.thin_len ha
    rw [Pat.ext_iff'] at he
    simp at he
    obtain ⟨e1, e2, e3, e4, e5⟩ := he
    have h5 : a.kids.length = b.kids.length := by have := congrArg List.length e5; simpa using this
    refine call_r05_patAt _ _ ?_
    rw [eq_r05_patAt]
    simp [Pat.ext_iff', e1, e2, e3, e4]
    by_cases h1 : a.lo = b.lo <;> simp [h1]
    by_cases h2 : a.hi = b.hi <;> simp [h2]
    have loop := loop_twoB (l := a.kids) (m := b.kids) h5 (P := fun i => P_r05_patAt_4h (run cfg) (.int .i64 i) a.enc b.enc)
      (by rw [eq_r05_patAt_4h]; simp [h5])
      (fun i h => by
        have h' : i < b.kids.length := by omega
        have e6 : a.kids[i].bare = b.kids[i].bare := by
          have : (a.kids.map Pat.bare)[i]'(by simpa using h) = (b.kids.map Pat.bare)[i]'(by simpa using h') := by simp only [e5]
          simpa using this
        rw [eq_r05_patAt_4h]
        simp [h, h', dIdx_map h, dIdx_map h', Pat.eta, ih _ (List.getElem_mem h) (Pat.thin_kid ha (List.getElem_mem h)) _ e6, dAdd1 (show i < 9223372036854775807 by omega)])
    simp [loop]

theorem sp_r05_Same (a : Ex) : a.fit → ∀ b : Ex, (run cfg).p F_r05_Same [a.enc, b.enc] = some (.bool (decide (a.bare = b.bare))) := by
  induction a using Ex.ind with
  | h a ih =>
    intro ha b
    have hk := big (Nat.le_of_lt ha.one.kids)
    have hp := big (Nat.le_of_lt ha.one.pats)
    refine call_r05_Same _ _ ?_
    rw [eq_r05_Same]
    simp
    by_cases h1 : a.kind = b.kind <;> simp [h1, Ex.ext_iff']
    by_cases h2 : a.name = b.name <;> simp [h2]
    by_cases h3 : a.arg = b.arg <;> simp [h3]
    by_cases h4 : a.n = b.n <;> simp [h4]
    by_cases h6 : a.s = b.s <;> simp [h6]
    by_cases h7 : a.op = b.op <;> simp [h7]
    by_cases h8 : a.pats.length = b.pats.length
    · by_cases h5 : a.kids.length = b.kids.length
      · have loop := loop_twoB (l := a.kids.map Ex.bare) (m := b.kids.map Ex.bare) (by simpa using h5) (P := fun i => P_r05_Same_11h (run cfg) (.int .i64 i) a.enc b.enc)
          (by rw [eq_r05_Same_11h]; simp [h5])
          (fun i h => by
            have h : i < a.kids.length := by simpa using h
            have h' : i < b.kids.length := by omega
            rw [eq_r05_Same_11h]
            simp [h, h', dIdx_map h, dIdx_map h', Ex.eta, ih _ (List.getElem_mem h) (ha.kid (List.getElem_mem h)), dAdd1 (show i < 9223372036854775807 by omega)])
        have loop2 := loop_two (l := a.pats.map Pat.bare) (m := b.pats.map Pat.bare) (by simpa using h8) (P := fun i => P_r05_Same_6h (run cfg) (.int .i64 i) a.enc b.enc) (y := .bool (decide (a.kids.map Ex.bare = b.kids.map Ex.bare))) (n := .bool false)
          (by rw [eq_r05_Same_6h]; simp [h8, loop])
          (fun i h => by
            have h : i < a.pats.length := by simpa using h
            have h' : i < b.pats.length := by omega
            rw [eq_r05_Same_6h]
            simp [h, h', dIdx_map h, dIdx_map h', Pat.eta, sp_r05_SamePat _ (Pat.fit_thin (ha.one.pat _ (List.getElem_mem h))), dAdd1 (show i < 9223372036854775807 by omega)])
        simp only [h5, h8]
        simp [eq_r05_Same_3, Ty.eta, sp_r03_Same _ ha.one.a, sp_r03_Same _ ha.one.b]
        by_cases h9 : a.a = b.a <;> simp [h9]
        by_cases h10 : a.b = b.b <;> simp [h10, loop2]
        by_cases h11 : a.pats.map Pat.bare = b.pats.map Pat.bare <;> simp [h11]
      · have : a.kids.map Ex.bare ≠ b.kids.map Ex.bare := fun h => h5 (by have := congrArg List.length h; simpa using this)
        simp [Int.ofNat_inj, h5, h8, this]
    · have : a.pats.map Pat.bare ≠ b.pats.map Pat.bare := fun h => h8 (by have := congrArg List.length h; simpa using this)
      simp [Int.ofNat_inj, h8, this]

theorem sp_r05_SameAt (a : Ex) : a.fit → ∀ b : Ex, (run cfg).p F_r05_SameAt [a.enc, b.enc] = some (.bool (decide (a = b))) := by
  induction a using Ex.ind with
  | h a ih =>
    intro ha b
    have hk := big (Nat.le_of_lt ha.one.kids)
    have hp := big (Nat.le_of_lt ha.one.pats)
    refine call_r05_SameAt _ _ ?_
    rw [eq_r05_SameAt]
    simp [Ex.eta, sp_r05_Same a ha]
    by_cases he : a.bare = b.bare
    · rw [if_pos he]
      rw [Ex.ext_iff'] at he
      simp at he
      obtain ⟨e1, e2, e3, e4, e5, e6, e7, e8, e9, e10⟩ := he
      have h5 : a.kids.length = b.kids.length := by have := congrArg List.length e10; simpa using this
      have h8 : a.pats.length = b.pats.length := by have := congrArg List.length e9; simpa using this
      have loop := loop_twoB (l := a.kids) (m := b.kids) h5 (P := fun i => P_r05_SameAt_9h (run cfg) (.int .i64 i) a.enc b.enc)
        (by rw [eq_r05_SameAt_9h]; simp [h5])
        (fun i h => by
          have h' : i < b.kids.length := by omega
          rw [eq_r05_SameAt_9h]
          simp [h, h', dIdx_map h, dIdx_map h', Ex.eta, ih _ (List.getElem_mem h) (ha.kid (List.getElem_mem h)), dAdd1 (show i < 9223372036854775807 by omega)])
      have loop2 := loop_two (l := a.pats) (m := b.pats) h8 (P := fun i => P_r05_SameAt_4h (run cfg) (.int .i64 i) a.enc b.enc) (y := .bool (decide (a.kids = b.kids))) (n := .bool false)
        (by rw [eq_r05_SameAt_4h]; simp [h8, loop])
        (fun i h => by
          have h' : i < b.pats.length := by omega
          have e11 : a.pats[i].bare = b.pats[i].bare := by
            have : (a.pats.map Pat.bare)[i]'(by simpa using h) = (b.pats.map Pat.bare)[i]'(by simpa using h') := by simp only [e9]
            simpa using this
          rw [eq_r05_SameAt_4h]
          simp [h, h', dIdx_map h, dIdx_map h', Pat.eta, sp_r05_patAt _ (Pat.fit_thin (ha.one.pat _ (List.getElem_mem h))) _ e11, dAdd1 (show i < 9223372036854775807 by omega)])
      simp [Ex.ext_iff', e1, e2, e3, e4, e5, e6, e7, e8]
      by_cases h1 : a.lo = b.lo <;> simp [h1]
      by_cases h2 : a.hi = b.hi <;> simp [h2, loop2]
      by_cases h11 : a.pats = b.pats <;> simp [h11]
    · have : a ≠ b := fun h => he (by rw [h])
      rw [if_neg he]
      simp [this]

def shapeD (k : Int) (np : Nat) : DV := .agg [.bool (kName k), .bool (kArg k), .bool (kN k), .bool (kS k), .bool (kOp k), .bool (kAt k), .bool (kVars k), .bool (kArgs k), .bool (kPats k), .bool (kA k), .bool (kB k), .bool (kLabel k), .int .i64 (kKids k np)]

theorem sp_term_shapeOf (t : Tm) (ht : t.fit1) : ∃ d, (run cfg).p F_term_shapeOf [t.enc] = some (.tup [d, .bool (kOk t.kind t.pats.length)]) ∧ (kOk t.kind t.pats.length = true → d = shapeD t.kind t.pats.length) ∧ isAggN 13 d = true := by
  have hp := big (Nat.le_of_lt ht.pats)
  suffices h : ∃ d, P_term_shapeOf (run cfg) t.enc = some (.tup [d, .bool (kOk t.kind t.pats.length)]) ∧ (kOk t.kind t.pats.length = true → d = shapeD t.kind t.pats.length) ∧ isAggN 13 d = true by
    obtain ⟨d, h1, h2⟩ := h
    exact ⟨d, call_term_shapeOf _ h1, h2⟩
  rw [eq_term_shapeOf]
  have fl : ∀ {a b c d e f g h i j k l : Bool} {n : Int}, isAggN 13 (.agg [.bool a, .bool b, .bool c, .bool d, .bool e, .bool f, .bool g, .bool h, .bool i, .bool j, .bool k, .bool l, .int .i64 n]) = true := rfl
  by_cases k14 : t.kind = 14
  · have h1 : dBin .add (.int .i64 (t.pats.length : Int)) (.int .i64 1) = some (.int .i64 ((t.pats.length : Int) + 1)) := dAdd (by omega) (by omega)
    simp [k14, h1, kOk, shapeD, kName, kArg, kN, kS, kOp, kAt, kVars, kArgs, kPats, kA, kB, kLabel, kKids, fl]
  by_cases k1 : t.kind = 1
  · simp [k1, kOk, shapeD, kName, kArg, kN, kS, kOp, kAt, kVars, kArgs, kPats, kA, kB, kLabel, kKids, fl]
  by_cases k2 : t.kind = 2
  · simp [k2, kOk, shapeD, kName, kArg, kN, kS, kOp, kAt, kVars, kArgs, kPats, kA, kB, kLabel, kKids, fl]
  by_cases k3 : t.kind = 3
  · simp [k3, kOk, shapeD, kName, kArg, kN, kS, kOp, kAt, kVars, kArgs, kPats, kA, kB, kLabel, kKids, fl]
  by_cases k4 : t.kind = 4
  · simp [k4, kOk, shapeD, kName, kArg, kN, kS, kOp, kAt, kVars, kArgs, kPats, kA, kB, kLabel, kKids, fl]
  by_cases k5 : t.kind = 5
  · simp [k5, kOk, shapeD, kName, kArg, kN, kS, kOp, kAt, kVars, kArgs, kPats, kA, kB, kLabel, kKids, fl]
  by_cases k6 : t.kind = 6
  · simp [k6, kOk, shapeD, kName, kArg, kN, kS, kOp, kAt, kVars, kArgs, kPats, kA, kB, kLabel, kKids, fl]
  by_cases k7 : t.kind = 7
  · simp [k7, kOk, shapeD, kName, kArg, kN, kS, kOp, kAt, kVars, kArgs, kPats, kA, kB, kLabel, kKids, fl]
  by_cases k8 : t.kind = 8
  · simp [k8, kOk, shapeD, kName, kArg, kN, kS, kOp, kAt, kVars, kArgs, kPats, kA, kB, kLabel, kKids, fl]
  by_cases k9 : t.kind = 9
  · simp [k9, kOk, shapeD, kName, kArg, kN, kS, kOp, kAt, kVars, kArgs, kPats, kA, kB, kLabel, kKids, fl]
  by_cases k10 : t.kind = 10
  · simp [k10, kOk, shapeD, kName, kArg, kN, kS, kOp, kAt, kVars, kArgs, kPats, kA, kB, kLabel, kKids, fl]
  by_cases k11 : t.kind = 11
  · simp [k11, kOk, shapeD, kName, kArg, kN, kS, kOp, kAt, kVars, kArgs, kPats, kA, kB, kLabel, kKids, fl]
  by_cases k12 : t.kind = 12
  · simp [k12, kOk, shapeD, kName, kArg, kN, kS, kOp, kAt, kVars, kArgs, kPats, kA, kB, kLabel, kKids, fl]
  by_cases k13 : t.kind = 13
  · simp [k13, kOk, shapeD, kName, kArg, kN, kS, kOp, kAt, kVars, kArgs, kPats, kA, kB, kLabel, kKids, fl]
  by_cases k15 : t.kind = 15
  · simp [k15, kOk, shapeD, kName, kArg, kN, kS, kOp, kAt, kVars, kArgs, kPats, kA, kB, kLabel, kKids, fl]
  by_cases k16 : t.kind = 16
  · simp [k16, kOk, shapeD, kName, kArg, kN, kS, kOp, kAt, kVars, kArgs, kPats, kA, kB, kLabel, kKids, fl]
  · have hk : kOk t.kind t.pats.length = false := by
      unfold kOk
      rw [Bool.eq_false_iff]
      intro h
      simp only [Bool.and_eq_true, decide_eq_true_eq] at h
      omega
    simp [hk, k1, k2, k3, k4, k5, k6, k7, k8, k9, k10, k11, k12, k13, k14, k15, k16, fl]

theorem sp_term_none (t : Ty) : (run cfg).p F_term_none [t.enc] = some (.bool t.none) := by
  refine call_term_none _ ?_
  rw [eq_term_none]
  simp [Ty.none]
  by_cases h1 : t.kind = 0 <;> by_cases h2 : t.n = 0 <;> simp [h1, h2]

theorem sp_term_typed (h : Bool) (t : Ty) (ht : t.thin = true) : (run cfg).p F_term_typed [.bool h, t.enc] = some (.bool (typedB h t)) := by
  refine call_term_typed _ _ ?_
  rw [eq_term_typed]
  cases h
  · simp [Ty.eta, sp_term_none, typedB]
  · simp [Ty.eta, sp_typ_Check t ht, typedB]

theorem sp_term_named (h : Bool) (s : ByteArray) (hs : s.size ≤ 4294967000) : (run cfg).p F_term_named [.bool h, .str s] = some (.bool (namedB h s)) := by
  refine call_term_named _ _ ?_
  rw [eq_term_named]
  cases h
  · simp [namedB, nil_str]
  · simp [namedB, sp_word_Name s (by unfold lim; omega)]

theorem sp_term_lists (t : Tm) (ht : t.fit1) : (run cfg).p F_term_lists [t.enc] = some (.bool t.lists) := by
  have hv := big (Nat.le_of_lt ht.vars)
  have ha := big (Nat.le_of_lt ht.args)
  have hp := big (Nat.le_of_lt ht.pats)
  refine call_term_lists _ ?_
  have l3 := loop_allB (l := t.pats) (f := Pat.right) (P := fun i => P_term_lists_14h (run cfg) (.list 7 (t.pats.map Pat.enc)) (.int .i64 t.pats.length) (.int .i64 i))
    (by rw [eq_term_lists_14h]; simp)
    (fun i h => by
      rw [eq_term_lists_14h]
      have f := ht.pat _ (List.getElem_mem h)
      simp [h, dIdx_map h, Pat.eta, sp_tree_CheckPat _ (Pat.fit_thin f) f.txt, dAdd1 (show i < 9223372036854775807 by omega)]
      cases t.pats[i].right <;> rfl)
  have l2 := loop_all (l := t.args) (f := Ty.right) (P := fun i => P_term_lists_8h (run cfg) (.list 3 (t.args.map Ty.enc)) (.int .i64 t.args.length) (.int .i64 i) t.enc) (y := .bool (t.pats.all Pat.right)) (n := .bool false)
    (by rw [eq_term_lists_8h]; simp [l3])
    (fun i h => by
      rw [eq_term_lists_8h]
      simp [h, dIdx_map h, Ty.eta, sp_typ_Check _ (ht.arg1 _ (List.getElem_mem h)), dAdd1 (show i < 9223372036854775807 by omega)]
      cases t.args[i].right <;> rfl)
  have l1 := loop_all (l := t.vars) (f := fun v => decide (0 ≤ v) && decide (v ≤ 1048576)) (P := fun i => P_term_lists_2h (run cfg) (encInts t.vars) (.int .i64 t.vars.length) (.int .i64 i) t.enc) (y := .bool (t.args.all Ty.right && t.pats.all Pat.right)) (n := .bool false)
    (by rw [eq_term_lists_2h]; simp only [dBin_lss, Int.lt_irrefl, decide_false, ob_some', oif_bool, Bool.false_eq_true, if_false, Tm.proj17, dLen_list, List.length_map, l2, ite_andB])
    (fun i h => by
      rw [eq_term_lists_2h]
      simp [h, dIdx_ints h, dAdd1 (show i < 9223372036854775807 by omega)]
      by_cases h1 : t.vars[i] < 0
      · simp [h1, show ¬ 0 ≤ t.vars[i] by omega]
      · by_cases h2 : 1048576 < t.vars[i]
        · simp [h1, h2, show ¬ t.vars[i] ≤ 1048576 by omega]
        · simp [h1, h2, show 0 ≤ t.vars[i] by omega, show t.vars[i] ≤ 1048576 by omega])
  rw [eq_term_lists]
  simp only [isAggN_Tm, og_true', Tm.proj10, dLen_ints, ob_some', l1, ite_andB, Tm.lists, Bool.and_assoc]

theorem sp_term_one (t : Tm) (ht : t.fit1) : (run cfg).p F_term_one [t.enc] = some (.bool t.one) := by
  refine call_term_one _ ?_
  obtain ⟨d, h1, h2, h3⟩ := sp_term_shapeOf t ht
  rw [eq_term_one]
  have x0 : ∀ b, dExt 0 (.tup [d, .bool b]) = some d := fun _ => rfl
  have x1 : ∀ b, dExt 1 (.tup [d, .bool b]) = some (.bool b) := fun _ => rfl
  simp only [isAggN_Tm, og_true', Tm.proj0, Tm.proj1, Tm.proj2, Tm.proj3, Tm.proj4, Tm.proj5, Tm.proj6, Tm.proj7, Tm.proj8, Tm.proj9, Tm.proj10, Tm.proj11, Tm.proj12, Tm.proj13, Tm.proj14, Tm.proj15, Tm.proj16, Tm.proj17, Tm.proj18, Tm.proj19, Tm.eta, Ty.eta, h1, x0, x1, ob_some', h3, dUn_not, ogd_bool]
  cases hk : kOk t.kind t.pats.length
  · simp [Tm.one, hk]
  rw [h2 hk]
  have p0 : proj 0 (shapeD t.kind t.pats.length) = .bool (kName t.kind) := rfl
  have p1 : proj 1 (shapeD t.kind t.pats.length) = .bool (kArg t.kind) := rfl
  have p2 : proj 2 (shapeD t.kind t.pats.length) = .bool (kN t.kind) := rfl
  have p3 : proj 3 (shapeD t.kind t.pats.length) = .bool (kS t.kind) := rfl
  have p4 : proj 4 (shapeD t.kind t.pats.length) = .bool (kOp t.kind) := rfl
  have p5 : proj 5 (shapeD t.kind t.pats.length) = .bool (kAt t.kind) := rfl
  have p6 : proj 6 (shapeD t.kind t.pats.length) = .bool (kVars t.kind) := rfl
  have p7 : proj 7 (shapeD t.kind t.pats.length) = .bool (kArgs t.kind) := rfl
  have p8 : proj 8 (shapeD t.kind t.pats.length) = .bool (kPats t.kind) := rfl
  have p9 : proj 9 (shapeD t.kind t.pats.length) = .bool (kA t.kind) := rfl
  have p10 : proj 10 (shapeD t.kind t.pats.length) = .bool (kB t.kind) := rfl
  have p11 : proj 11 (shapeD t.kind t.pats.length) = .bool (kLabel t.kind) := rfl
  have p12 : proj 12 (shapeD t.kind t.pats.length) = .int .i64 (kKids t.kind t.pats.length) := rfl
  have h12 : P_term_one_12 (run cfg) t.enc (shapeD t.kind t.pats.length) = some (.bool t.one5) := by
    rw [eq_term_one_12]
    simp only [p6, p7, p8, Tm.proj0, Tm.proj1, Tm.proj2, Tm.proj3, Tm.proj4, Tm.proj5, Tm.proj6, Tm.proj7, Tm.proj8, Tm.proj9, Tm.proj10, Tm.proj11, Tm.proj12, Tm.proj13, Tm.proj14, Tm.proj15, Tm.proj16, Tm.proj17, Tm.proj18, Tm.proj19, Tm.eta, sp_term_lists t ht, dLen_list, dLen_ints, List.length_map, ob_some', dUn_not, ogd_bool, oif_bool, dBin_gtr, Tm.one5]
    cases kVars t.kind <;> cases kArgs t.kind <;> cases kPats t.kind <;> by_cases v : t.vars.length = 0 <;> by_cases a : t.args.length = 0 <;> by_cases p : t.pats.length = 0 <;> simp [v, a, p, Nat.pos_iff_ne_zero]
  have h10 : P_term_one_10 (run cfg) t.enc (shapeD t.kind t.pats.length) = some (.bool t.one4) := by
    rw [eq_term_one_10]
    simp only [p11, Tm.proj8, Tm.proj9, h12, ob_some', dUn_not, ogd_bool, oif_bool, dBin_gtr, dBin_lss, dBin_neq, Tm.one4]
    by_cases a : t.label < 0
    · have a' : ¬ 0 ≤ t.label := by omega
      cases kLabel t.kind <;> cases t.neg <;> by_cases v : t.label = 0 <;> simp [a, a', v]
    · have a' : 0 ≤ t.label := by omega
      by_cases p : 1048576 < t.label
      · have p' : ¬ t.label ≤ 1048576 := by omega
        cases kLabel t.kind <;> cases t.neg <;> by_cases v : t.label = 0 <;> simp [a, a', p, p', v]
      · have p' : t.label ≤ 1048576 := by omega
        cases kLabel t.kind <;> cases t.neg <;> by_cases v : t.label = 0 <;> simp [a, a', p, p', v]
  have h8 : P_term_one_8 (run cfg) t.enc (shapeD t.kind t.pats.length) = some (.bool t.one3) := by
    rw [eq_term_one_8]
    simp only [p4, Tm.proj7, h10, ob_some', dUn_not, ogd_bool, oif_bool, dBin_gtr, dBin_lss, dBin_neq, Tm.one3]
    cases kOp t.kind
    · by_cases v : t.op = 0 <;> simp [v]
    · by_cases a : t.op < 1
      · simp [a, show ¬ 1 ≤ t.op by omega]
      · by_cases p : 7 < t.op
        · simp [a, p, show ¬ t.op ≤ 7 by omega]
        · simp [a, p, show 1 ≤ t.op by omega, show t.op ≤ 7 by omega]
  have hs : ∀ n : Nat, dBin .gtr (.int .i64 (n : Int)) (.int .i64 200) = some (.bool (decide (200 < n))) := fun n => by
    rw [dBin_gtr]; congr 2; rw [decide_eq_decide]; omega
  have h6 : P_term_one_6 (run cfg) t.enc (shapeD t.kind t.pats.length) = some (.bool t.one2) := by
    rw [eq_term_one_6]
    simp only [p3, p5, Tm.proj6, Tm.proj1, Tm.proj2, h8, ob_some', dUn_not, ogd_bool, oif_bool, dLenS_str, hs, nil_str, dBin_sneq, dEqA_two, Tm.one2]
    generalize t.s.size = z
    by_cases a : 200 < z
    · have : ¬ z ≤ 200 := by omega
      cases kS t.kind <;> by_cases v : t.s = nil8 <;> simp [a, v, this]
    · have : z ≤ 200 := by omega
      cases kS t.kind <;> cases kAt t.kind <;> by_cases v : t.s = nil8 <;> by_cases x : t.lo = 0 <;> by_cases y : t.hi = 0 <;> simp [a, v, x, y, this]
  have h4 : P_term_one_4 (run cfg) t.enc (shapeD t.kind t.pats.length) = some (.bool t.one1) := by
    rw [eq_term_one_4]
    simp only [p2, Tm.proj5, Tm.proj0, h6, ob_some', dUn_not, ogd_bool, oif_bool, dBin_neq, dBin_eql, Tm.one1]
    cases kN t.kind <;> by_cases v : t.kind = 3 <;> by_cases x : t.n = 0 <;> by_cases y : t.n = 1 <;> simp [v, x, y]
  simp only [p0, p1, p9, p10, p12, sp_term_named _ _ ht.name, sp_term_named _ _ ht.arg, sp_term_typed _ _ ht.a, sp_term_typed _ _ ht.b, h4, dLen_list, List.length_map, ob_some', dUn_not, ogd_bool, oif_bool, dBin_neq, Tm.one, hk]
  by_cases v : (t.kids.length : Int) = kKids t.kind t.pats.length <;> cases namedB (kName t.kind) t.name <;> cases namedB (kArg t.kind) t.arg <;> cases typedB (kA t.kind) t.a <;> cases typedB (kB t.kind) t.b <;> simp [v]

theorem sp_term_right (t : Tm) : t.fit → (run cfg).p F_term_right [t.enc] = some (.bool t.right) := by
  induction t using Tm.ind with
  | h t ih =>
    intro ht
    have hk := big (Nat.le_of_lt ht.one.kids)
    refine call_term_right _ ?_
    have loop := loop_allB (l := t.kids) (f := Tm.right) (P := fun i => P_term_right_4h (run cfg) (.list 20 (t.kids.map Tm.enc)) (.int .i64 t.kids.length) (.int .i64 i))
      (by rw [eq_term_right_4h]; simp)
      (fun i h => by
        rw [eq_term_right_4h]
        simp [h, dIdx_map h, Tm.eta, ih _ (List.getElem_mem h) (ht.kid (List.getElem_mem h)), dAdd1 (show i < 9223372036854775807 by omega)]
        cases t.kids[i].right <;> rfl)
    rw [eq_term_right, Tm.right_eq]
    simp [Tm.eta, sp_term_one t ht.one, loop]
    cases t.one <;> simp

theorem sp_term_Check (t : Tm) (ht : t.fit) : (run cfg).p F_term_Check [t.enc] = some (.int .i64 (if t.right = true then 0 else 1)) := by
  refine call_term_Check _ ?_
  rw [eq_term_Check]
  simp [Tm.eta, sp_term_right t ht]
  cases t.right <;> rfl

theorem Tm.bareF_enc (t : Tm) : t.bareF.enc = .agg [.int .i64 t.kind, .int .i64 (if kAt t.kind = true then t.lo else 0), .int .i64 (if kAt t.kind = true then t.hi else 0), .str (if kName t.kind = true then t.name else nil8), .str (if kArg t.kind = true then t.arg else nil8), .int .i64 (if kN t.kind = true then t.n else 0),
    .str (if kS t.kind = true then t.s else nil8), .int .i64 (if kOp t.kind = true then t.op else 0), .int .i64 (if kLabel t.kind = true then t.label else 0), .bool (if kLabel t.kind = true then t.neg else false), encInts (if kVars t.kind = true then t.vars else []),
    .int .i64 (if kA t.kind = true then t.a else .mk 0 0 []).kind, .int .i64 (if kA t.kind = true then t.a else .mk 0 0 []).n, .list 3 ((if kA t.kind = true then t.a else .mk 0 0 []).kids.map Ty.enc),
    .int .i64 (if kB t.kind = true then t.b else .mk 0 0 []).kind, .int .i64 (if kB t.kind = true then t.b else .mk 0 0 []).n, .list 3 ((if kB t.kind = true then t.b else .mk 0 0 []).kids.map Ty.enc),
    .list 3 ((if kArgs t.kind = true then t.args else []).map Ty.enc), .list 7 ((if kPats t.kind = true then t.pats else []).map Pat.enc), .list 20 []] := Tm.enc_eq t.bareF

theorem sp_r17_bare (t : Tm) (ht : t.fit1) : (run cfg).p F_r17_bare [t.enc] = some (.tup [t.bareF.enc, .int .i64 t.bareN]) := by
  have hp := big (Nat.le_of_lt ht.pats)
  refine call_r17_bare _ ?_
  have h25 : ∀ (a0 a1 a2 a3 a4 a5 a6 a7 a8 a9 a10 a11 a12 a13 a14 a15 a16 a17 a18 a19 : DV), ¬ (t.kind = 1) → ¬ (t.kind = 2) → ¬ (t.kind = 3) → ¬ (t.kind = 4) → ¬ (t.kind = 5) → ¬ (t.kind = 6) → ¬ (t.kind = 7) → ¬ (t.kind = 8) → ¬ (t.kind = 9) → ¬ (t.kind = 10) →
      P_r17_bare_25 (run cfg) (.int .i64 t.kind) t.enc a0 a1 a2 a3 a4 a5 a6 a7 a8 a9 a10 a11 a12 a13 a14 a15 a16 a17 a18 a19 (.int .i64 t.kind) (.int .i64 0) (.int .i64 0) (.str nil8) (.str nil8) (.int .i64 0) (.str nil8) (.int .i64 0) (.int .i64 0) (.bool false) (.list 1 [])
        (.int .i64 0) (.int .i64 0) (.list 3 []) (.int .i64 0) (.int .i64 0) (.list 3 []) (.list 3 []) (.list 7 []) (.list 20 []) = some (.tup [t.bareF.enc, .int .i64 t.bareN]) := by
    intro a0 a1 a2 a3 a4 a5 a6 a7 a8 a9 a10 a11 a12 a13 a14 a15 a16 a17 a18 a19 k1 k2 k3 k4 k5 k6 k7 k8 k9 k10
    rw [eq_r17_bare_25]
    by_cases k11 : t.kind = 11
    · simp [Tm.bareF_enc, Tm.bareN, k11, kName, kArg, kN, kS, kOp, kAt, kVars, kArgs, kPats, kA, kB, kLabel, kKids, encInts]
    by_cases k12 : t.kind = 12
    · simp [Tm.bareF_enc, Tm.bareN, k12, kName, kArg, kN, kS, kOp, kAt, kVars, kArgs, kPats, kA, kB, kLabel, kKids, encInts]
    by_cases k13 : t.kind = 13
    · simp [Tm.bareF_enc, Tm.bareN, k13, kName, kArg, kN, kS, kOp, kAt, kVars, kArgs, kPats, kA, kB, kLabel, kKids, encInts]
    by_cases k14 : t.kind = 14
    · have h1 : dBin .add (.int .i64 (t.pats.length : Int)) (.int .i64 1) = some (.int .i64 ((t.pats.length : Int) + 1)) := dAdd (by omega) (by omega)
      simp [Tm.bareF_enc, Tm.bareN, k14, h1, kName, kArg, kN, kS, kOp, kAt, kVars, kArgs, kPats, kA, kB, kLabel, kKids, encInts]
    by_cases k15 : t.kind = 15
    · simp [Tm.bareF_enc, Tm.bareN, k15, kName, kArg, kN, kS, kOp, kAt, kVars, kArgs, kPats, kA, kB, kLabel, kKids, encInts]
    by_cases k16 : t.kind = 16
    · simp [Tm.bareF_enc, Tm.bareN, k16, kName, kArg, kN, kS, kOp, kAt, kVars, kArgs, kPats, kA, kB, kLabel, kKids, encInts]
    have hk : ¬ (1 ≤ t.kind ∧ t.kind ≤ 16) := by omega
    simp [Tm.bareF_enc, Tm.bareN, hk, k1, k2, k3, k4, k5, k6, k7, k8, k9, k10, k11, k12, k13, k14, k15, k16, kName, kArg, kN, kS, kOp, kAt, kVars, kArgs, kPats, kA, kB, kLabel, kKids, encInts]
  rw [eq_r17_bare]
  simp only [nil_str]
  by_cases k1 : t.kind = 1
  · simp [Tm.bareF_enc, Tm.bareN, k1, kName, kArg, kN, kS, kOp, kAt, kVars, kArgs, kPats, kA, kB, kLabel, kKids, encInts]
  by_cases k2 : t.kind = 2
  · simp [Tm.bareF_enc, Tm.bareN, k2, kName, kArg, kN, kS, kOp, kAt, kVars, kArgs, kPats, kA, kB, kLabel, kKids, encInts]
  by_cases k3 : t.kind = 3
  · simp [Tm.bareF_enc, Tm.bareN, k3, kName, kArg, kN, kS, kOp, kAt, kVars, kArgs, kPats, kA, kB, kLabel, kKids, encInts]
  by_cases k4 : t.kind = 4
  · simp [Tm.bareF_enc, Tm.bareN, k4, kName, kArg, kN, kS, kOp, kAt, kVars, kArgs, kPats, kA, kB, kLabel, kKids, encInts]
  by_cases k5 : t.kind = 5
  · simp [Tm.bareF_enc, Tm.bareN, k5, kName, kArg, kN, kS, kOp, kAt, kVars, kArgs, kPats, kA, kB, kLabel, kKids, encInts]
  by_cases k6 : t.kind = 6
  · simp [Tm.bareF_enc, Tm.bareN, k6, kName, kArg, kN, kS, kOp, kAt, kVars, kArgs, kPats, kA, kB, kLabel, kKids, encInts]
  by_cases k7 : t.kind = 7
  · simp [Tm.bareF_enc, Tm.bareN, k7, kName, kArg, kN, kS, kOp, kAt, kVars, kArgs, kPats, kA, kB, kLabel, kKids, encInts]
  by_cases k8 : t.kind = 8
  · simp [Tm.bareF_enc, Tm.bareN, k8, kName, kArg, kN, kS, kOp, kAt, kVars, kArgs, kPats, kA, kB, kLabel, kKids, encInts]
  by_cases k9 : t.kind = 9
  · simp [Tm.bareF_enc, Tm.bareN, k9, kName, kArg, kN, kS, kOp, kAt, kVars, kArgs, kPats, kA, kB, kLabel, kKids, encInts]
  by_cases k10 : t.kind = 10
  · simp [Tm.bareF_enc, Tm.bareN, k10, kName, kArg, kN, kS, kOp, kAt, kVars, kArgs, kPats, kA, kB, kLabel, kKids, encInts]
  simp [k1, k2, k3, k4, k5, k6, k7, k8, k9, k10, h25]

def exPat (p : Pat) : Ex := .mk 14 0 0 nil8 nil8 0 nil8 0 (.mk 0 0 []) (.mk 0 0 []) [p] []

theorem exPat_fit {p : Pat} (h : p.fit) : (exPat p).fit := by
  have t0 : (Ty.mk 0 0 []).thin = true := by rw [Ty.thin_eq]; simp [lim]
  have t1 : (Ty.mk 0 0 []).vcount ≤ lim := by rw [Ty.vcount_eq]; simp [lim]
  refine .mk _ ⟨?_, ?_, ?_, t0, t0, t1, t1, ?_, ?_, ?_⟩ fun k hk => by simp [exPat] at hk
  · show nil8.size ≤ _; exact Nat.zero_le _
  · show nil8.size ≤ _; exact Nat.zero_le _
  · show nil8.size ≤ _; exact Nat.zero_le _
  · simp [exPat, lim]
  · simpa [exPat] using h
  · simp [exPat, lim]

theorem dSlice_one {α : Type} {e : α → DV} {sz : Nat} {l : List α} {i : Nat} (h : i < l.length) : dSlice sz (.list sz (l.map e)) (some (.int .i64 (i : Int))) (some (.int .i64 ((i + 1 : Nat) : Int))) = some (.list sz [e l[i]]) := by
  have e1 : ((l.map e).take (i + 1)).drop i = [e l[i]] := by
    rw [List.drop_take, show i + 1 - i = 1 by omega, List.drop_eq_getElem_cons (by simpa using h)]
    simp
  simp only [dSlice, bnd, ob_some', Int.natCast_nonneg, if_true, Int.toNat_natCast, List.length_map, true_and]
  rw [if_pos ⟨by omega, by omega⟩, e1]

theorem sp_r17_flat (a : Tm) (ha : a.fit1) (b : Tm) : (run cfg).p F_r17_flat [a.enc, b.enc] = some (.bool (a.flatB b)) := by
  have hv := big (Nat.le_of_lt ha.vars)
  have hp := big (Nat.le_of_lt ha.pats)
  refine call_r17_flat _ _ ?_
  have h3 : P_r17_flat_3 (run cfg) a.enc b.enc = some (.bool (decide (a.args = b.args) && decide (a.a = b.a) && decide (a.b = b.b) && decide (a.vars = b.vars) && decide (a.pats = b.pats))) := by
    rw [eq_r17_flat_3]
    simp [Ty.eta, sp_r03_SameAll _ _ (Nat.le_of_lt ha.args) ha.arg1, sp_r03_Same _ ha.a, sp_r03_Same _ ha.b, Int.ofNat_inj]
    by_cases e1 : a.vars.length = b.vars.length
    · by_cases e2 : a.pats.length = b.pats.length
      · have l2 := loop_twoB (l := a.pats) (m := b.pats) e2 (P := fun i => P_r17_flat_11h (run cfg) (.int .i64 i) a.enc b.enc)
          (by rw [eq_r17_flat_11h]; simp [e2])
          (fun i h => by
            have h' : i < b.pats.length := by omega
            rw [eq_r17_flat_11h]
            have f := exPat_fit (ha.pat _ (List.getElem_mem h))
            have eA : ∀ p : Pat, DV.agg [.int .i64 14, .int .i64 0, .int .i64 0, .str ⟨#[]⟩, .str ⟨#[]⟩, .int .i64 0, .str ⟨#[]⟩, .int .i64 0, .int .i64 0, .int .i64 0, .list 3 [], .int .i64 0, .int .i64 0, .list 3 [], .list 7 [p.enc], .list 16 []] = (exPat p).enc := fun p => by
              rw [Ex.enc_eq]; rfl
            have d1 := dSlice_one (e := Pat.enc) (sz := 7) h
            have d2 := dSlice_one (e := Pat.enc) (sz := 7) h'
            simp only [Tm.proj18, dLen_list, List.length_map, ob_some', dBin_lss, Int.ofNat_lt, h, decide_true, oif_bool, if_true, dAdd1 (show i < 9223372036854775807 by omega), d1, d2, isCell_list, og_true', eA, sp_r05_SameAt _ f, dUn_not]
            have : (exPat a.pats[i] = exPat b.pats[i]) ↔ a.pats[i] = b.pats[i] := by simp [exPat]
            simp only [this]
            by_cases h9 : a.pats[i] = b.pats[i] <;> simp [h9])
        have l1 := loop_two (l := a.vars) (m := b.vars) e1 (P := fun i => P_r17_flat_6h (run cfg) (.int .i64 i) a.enc b.enc) (y := .bool (decide (a.pats = b.pats))) (n := .bool false)
          (by rw [eq_r17_flat_6h]; simp [e1, l2])
          (fun i h => by
            have h' : i < b.vars.length := by omega
            rw [eq_r17_flat_6h]
            simp [h, h', dIdx_ints h, dIdx_ints h', dAdd1 (show i < 9223372036854775807 by omega)])
        simp only [e1, e2, if_true, l1]
        by_cases h1 : a.args = b.args <;> by_cases h2 : a.a = b.a <;> by_cases h3 : a.b = b.b <;> by_cases h4 : a.vars = b.vars <;> simp [h1, h2, h3, h4]
      · have : a.pats ≠ b.pats := fun h => e2 (by rw [h])
        simp [e1, e2, this]
    · have : a.vars ≠ b.vars := fun h => e1 (by rw [h])
      simp [e1, this]
  rw [eq_r17_flat]
  simp [h3, Tm.flatB]
  by_cases h1 : a.kind = b.kind <;> simp [h1]
  by_cases h2 : a.lo = b.lo <;> simp [h2]
  by_cases h4 : a.hi = b.hi <;> simp [h4]
  by_cases h5 : a.name = b.name <;> simp [h5]
  by_cases h6 : a.arg = b.arg <;> simp [h6]
  by_cases h7 : a.n = b.n <;> simp [h7]
  by_cases h8 : a.s = b.s <;> simp [h8]
  by_cases h9 : a.op = b.op <;> simp [h9]
  by_cases h10 : a.label = b.label <;> simp [h10]
  by_cases h11 : a.neg = b.neg <;> simp [h11]

theorem sp_r17_own (t : Tm) (ht : t.fit1) : (run cfg).p F_r17_own [t.enc] = some (.bool t.one) := by
  have hv := big (Nat.le_of_lt ht.vars)
  have ha := big (Nat.le_of_lt ht.args)
  have hp := big (Nat.le_of_lt ht.pats)
  have hs : ∀ n : Nat, dBin .leq (.int .i64 (n : Int)) (.int .i64 200) = some (.bool (decide (n ≤ 200))) := fun n => by
    rw [dBin_leq]; congr 2; rw [decide_eq_decide]; omega
  have hz : ∀ n : Nat, dBin .gtr (.int .i64 (n : Int)) (.int .i64 0) = some (.bool (decide (0 < n))) := fun n => by
    rw [dBin_gtr]; congr 2; rw [decide_eq_decide]; omega
  refine call_r17_own _ ?_
  have l3 := loop_all (l := t.pats) (f := Pat.right) (P := fun i => P_r17_own_15h (run cfg) (.int .i64 i) t.enc) (y := .bool t.ownC) (n := .bool false)
    (by
      rw [eq_r17_own_15h]
      simp only [Tm.proj0, Tm.proj3, Tm.proj4, Tm.proj5, Tm.proj6, Tm.proj7, Tm.proj8, Tm.proj9, Tm.proj11, Tm.proj12, Tm.proj13, Tm.proj14, Tm.proj15, Tm.proj16, Tm.proj18, dLen_list, List.length_map, ob_some', dBin_lss, Int.lt_irrefl, decide_false, oif_bool, ogd_bool, Bool.false_eq_true, if_false, dBin_eql, decide_eq_true_eq,
        sp_r01_Name _ ht.name, sp_r01_Name _ ht.arg, Ty.eta, sp_r03_Right _ ht.a, sp_r03_Right _ ht.b, dLenS_str, hs, hz, dBin_geq, dBin_leq, Tm.ownC, ite_sb, ite_db]
      simp only [Bool.if_true_left, Bool.if_false_right, Bool.decide_eq_true, Bool.and_assoc])
    (fun i h => by
      rw [eq_r17_own_15h]
      have f := ht.pat _ (List.getElem_mem h)
      simp [h, dIdx_map h, Pat.eta, sp_r05_RightPat _ f.size f.txt, dAdd1 (show i < 9223372036854775807 by omega)]
      cases t.pats[i].right <;> rfl)
  have l2 := loop_all (l := t.vars) (f := fun v => decide (0 ≤ v) && decide (v ≤ 1048576)) (P := fun i => P_r17_own_10h (run cfg) (.int .i64 i) t.enc) (y := .bool (t.pats.all Pat.right && t.ownC)) (n := .bool false)
    (by rw [eq_r17_own_10h]; simp only [Tm.proj10, dLen_ints, dBin_lss, Int.lt_irrefl, decide_false, ob_some', oif_bool, Bool.false_eq_true, if_false, l3, ite_andB])
    (fun i h => by
      rw [eq_r17_own_10h]
      simp [h, dIdx_ints h, dAdd1 (show i < 9223372036854775807 by omega)]
      by_cases h1 : t.vars[i] < 0
      · simp [h1, show ¬ 0 ≤ t.vars[i] by omega]
      · by_cases h2 : 1048576 < t.vars[i]
        · simp [h1, h2, show ¬ t.vars[i] ≤ 1048576 by omega]
        · simp [h1, h2, show 0 ≤ t.vars[i] by omega, show t.vars[i] ≤ 1048576 by omega])
  have l1 := loop_all (l := t.args) (f := Ty.right) (P := fun i => P_r17_own_5h (run cfg) (.int .i64 i) t.enc) (y := .bool (t.vars.all (fun v => decide (0 ≤ v) && decide (v ≤ 1048576)) && (t.pats.all Pat.right && t.ownC))) (n := .bool false)
    (by rw [eq_r17_own_5h]; simp only [Tm.proj17, dLen_list, List.length_map, dBin_lss, Int.lt_irrefl, decide_false, ob_some', oif_bool, Bool.false_eq_true, if_false, l2, ite_andB])
    (fun i h => by
      rw [eq_r17_own_5h]
      simp [h, dIdx_map h, Ty.eta, sp_r03_Right _ (ht.arg1 _ (List.getElem_mem h)), dAdd1 (show i < 9223372036854775807 by omega)]
      cases t.args[i].right <;> rfl)
  have x0 : ∀ a b, dExt 0 (.tup [a, b]) = some a := fun _ _ => rfl
  have x1 : ∀ a b, dExt 1 (.tup [a, b]) = some b := fun _ _ => rfl
  rw [eq_r17_own]
  simp only [isAggN_Tm, og_true', Tm.proj0, Tm.proj1, Tm.proj2, Tm.proj3, Tm.proj4, Tm.proj5, Tm.proj6, Tm.proj7, Tm.proj8, Tm.proj9, Tm.proj10, Tm.proj11, Tm.proj12, Tm.proj13, Tm.proj14, Tm.proj15, Tm.proj16, Tm.proj17, Tm.proj18, Tm.proj19, Tm.eta, sp_r17_bare t ht, x0, x1, ob_some', dLen_list, List.length_map, dBin_neq, ogd_bool, oif_bool,
    sp_r17_flat _ (Tm.bareF_fit ht), dUn_not, l1]
  rw [← Tm.own_one]
  unfold Tm.lists
  by_cases h1 : t.bareN = (t.kids.length : Int)
  · cases h2 : t.bareF.flatB t
    · simp [h1]
    · simp only [h1, decide_true, Bool.not_true, Bool.false_eq_true, if_false, ite_andB, ite_andS, Bool.true_and, Bool.and_assoc]
      rw [Bool.and_left_comm]
  · simp [h1]

theorem sp_r17_Right (t : Tm) : t.fit → (run cfg).p F_r17_Right [t.enc] = some (.bool t.right) := by
  induction t using Tm.ind with
  | h t ih =>
    intro ht
    have hk := big (Nat.le_of_lt ht.one.kids)
    refine call_r17_Right _ ?_
    have loop := loop_allB (l := t.kids) (f := Tm.right) (P := fun i => P_r17_Right_4h (run cfg) (.int .i64 i) t.enc)
      (by rw [eq_r17_Right_4h]; simp)
      (fun i h => by
        rw [eq_r17_Right_4h]
        simp [h, dIdx_map h, Tm.eta, ih _ (List.getElem_mem h) (ht.kid (List.getElem_mem h)), dAdd1 (show i < 9223372036854775807 by omega)]
        cases t.kids[i].right <;> rfl)
    rw [eq_r17_Right, Tm.right_eq]
    simp [Tm.eta, sp_r17_own t ht.one, loop]
    cases t.one <;> simp

@[simp] theorem encBnd0 (e : Int × Ty) : proj 0 (encBnd e) = .int .i64 e.1 := rfl

@[simp] theorem encBnd1 (e : Int × Ty) : proj 1 (encBnd e) = .int .i64 e.2.kind := rfl

@[simp] theorem encBnd2 (e : Int × Ty) : proj 2 (encBnd e) = .int .i64 e.2.n := rfl

@[simp] theorem encBnd3 (e : Int × Ty) : proj 3 (encBnd e) = .list 3 (e.2.kids.map Ty.enc) := rfl

@[simp] theorem isAggN_Bnd (e : Int × Ty) : isAggN 4 (encBnd e) = true := rfl

theorem Nm.agg (n : ByteArray) (t : Ty) (vs : List Int) : DV.agg [.str n, .int .i64 t.kind, .int .i64 t.n, .list 3 (t.kids.map Ty.enc), encInts vs] = Nm.enc ⟨n, t, vs⟩ := rfl

theorem sp_l11_Small (ts : List Ty) (hl : ts.length ≤ lim) (h : ∀ t ∈ ts, t.size ≤ lim) : ∃ b : Bool, (run cfg).p F_l11_Small [.list 3 (ts.map Ty.enc)] = some (.bool b) := by
  have hb := big hl
  have loop : ∀ (n j : Nat), j + n = ts.length → ∃ b : Bool, P_l11_Small_2h (run cfg) (.list 3 (ts.map Ty.enc)) (.int .i64 j) = some (.bool b) := by
    intro n
    induction n with
    | zero =>
      intro j hj
      refine ⟨true, ?_⟩
      have : ¬ j < ts.length := by omega
      rw [eq_l11_Small_2h]
      simp [this]
    | succ n ih =>
      intro j hj
      have hj' : j < ts.length := by omega
      obtain ⟨b, hb'⟩ := ih (j + 1) (by omega)
      have hsz := h _ (List.getElem_mem hj')
      have hth := Ty.thin_of_size hsz
      obtain ⟨c, hc⟩ := sp_l03_Heavy1 ts[j] hth
      have hd := sp_r08_Deep ts[j] 60 (by omega) (by omega) hth
      have hv := sp_r03_Vars ts[j] hsz
      push_cast at hb'
      rw [eq_l11_Small_2h]
      cases c
      · cases hdd : ts[j].deep 60
        · by_cases hq : (8 : Int) < (ts[j].vars.length : Int)
          · exact ⟨false, by simp [hj', dIdx_map hj', Ty.eta, hc, hd, hdd, hv, hq]⟩
          · exact ⟨b, by simp [hj', dIdx_map hj', Ty.eta, hc, hd, hdd, hv, hq, dAdd1 (show j < 9223372036854775807 by omega), hb']⟩
        · exact ⟨false, by simp [hj', dIdx_map hj', Ty.eta, hc, hd, hdd]⟩
      · exact ⟨false, by simp [hj', dIdx_map hj', Ty.eta, hc]⟩
  obtain ⟨b, h1⟩ := loop ts.length 0 (by omega)
  refine ⟨b, call_l11_Small _ ?_⟩
  rw [eq_l11_Small]
  exact h1

theorem sp_l17_light (t : Ty) (h : t.size ≤ lim) : ∃ b : Bool, (run cfg).p F_l17_light [t.enc] = some (.bool b) := by
  obtain ⟨b, hb⟩ := sp_l11_Small [t] (by simp [lim]) (by simpa using h)
  simp only [List.map_cons, List.map_nil] at hb
  have hs := sp_r03_Size t h
  cases b
  · refine ⟨false, call_l17_light _ ?_⟩
    rw [eq_l17_light]
    simp [Ty.eta, hb]
  · refine ⟨decide ((t.size : Int) ≤ 60), call_l17_light _ ?_⟩
    rw [eq_l17_light]
    simp [Ty.eta, hb, hs]

theorem cd1 (e : Int) : cellDat [((.int .i64 e : DV), Meta.val)] 0 = some (.int .i64 e) := rfl

theorem e4 : errOk 4 := .inl rfl

theorem e6 : errOk 6 := .inr (.inl rfl)

def Deriv.fit (d : Deriv) : Prop := d.types.length < lim ∧ d.vars.length < lim ∧ d.kids.length < lim ∧ (∀ t ∈ d.types, t.thin = true) ∧ ∀ k : { x // x ∈ d.kids }, Deriv.fit k.1
termination_by SizeOf.sizeOf d
decreasing_by exact Deriv.kid_lt k.2

theorem Deriv.fit_eq (d : Deriv) : d.fit ↔ d.types.length < lim ∧ d.vars.length < lim ∧ d.kids.length < lim ∧ (∀ t ∈ d.types, t.thin = true) ∧ ∀ k ∈ d.kids, k.fit := by
  rw [Deriv.fit]
  simp

theorem Deriv.fit_mass {d : Deriv} : d.mass ≤ lim → d.fit := by
  induction d using Deriv.ind with
  | h d ih =>
    intro h
    rw [Deriv.fit_eq]
    have h1 := d.mass_types
    have h2 := d.mass_vars
    have h3 := d.mass_len
    have h4 : d.types.length ≤ (d.types.map Ty.size).sum := by
      have : ∀ l : List Ty, l.length ≤ (l.map Ty.size).sum := by
        intro l
        induction l with
        | nil => simp
        | cons x l ih => have := Ty.size_pos x; simp only [List.length_cons, List.map_cons, List.sum_cons]; omega
      exact this _
    refine ⟨by omega, by omega, by omega, fun t ht => ?_, fun k hk => ih k hk ?_⟩
    · refine Ty.thin_of_size ?_
      have := le_sum_mem (List.mem_map_of_mem (f := Ty.size) ht)
      omega
    · have := Deriv.mass_kid hk; omega

theorem Tm.kid_size {t : Tm} {n : Nat} (h : t.size ≤ n) {k : Tm} (hk : k ∈ t.kids) : k.size ≤ n := by
  have := Tm.size_kid hk
  omega

theorem foldl_size (l : List Tm) : ∀ a : Nat, l.foldl (fun a k => a + k.size) a = a + (l.map Tm.size).sum := by
  induction l with
  | nil => intro a; simp
  | cons x l ih => intro a; simp [ih]; omega

theorem sp_term_Size (t : Tm) : t.size ≤ lim → (run cfg).p F_term_Size [t.enc] = some (.int .i64 t.size) := by
  induction t using Tm.ind with
  | h t ih =>
    intro ht
    have hb := big (Nat.le_trans (Nat.le_of_lt t.len_lt) ht)
    refine call_term_Size _ ?_
    rw [eq_term_Size]
    simp only [isAggN_Tm, og_true', Tm.proj19, dLen_list, List.length_map, ob_some']
    have loop := loop_fold (l := t.kids) (P := fun i (a : Nat) => P_term_Size_3h (run cfg) (.int .i64 a) (.list 20 (t.kids.map Tm.enc)) (.int .i64 t.kids.length) (.int .i64 i)) (g := fun a k => a + k.size) (fin := fun a => some (.int .i64 a))
      (I := fun i a => a + ((t.kids.drop i).map Tm.size).sum ≤ lim)
      (fun a _ => by rw [eq_term_Size_3h]; simp)
      (fun i h a ha => by
        rw [List.drop_eq_getElem_cons h, List.map_cons, List.sum_cons] at ha
        have := big ha
        refine ⟨?_, by omega⟩
        rw [eq_term_Size_3h]
        simp [h, dIdx_map h, Tm.eta, ih _ (List.getElem_mem h) (Tm.kid_size ht (List.getElem_mem h)), dAdd1 (show i < 9223372036854775807 by omega)]
        rw [dAdd (by omega) (by omega)]
        simp) 1 (by have := Tm.size_eq t; simpa using (by omega : 1 + (t.kids.map Tm.size).sum ≤ lim))
    rw [foldl_size, ← Tm.size_eq] at loop
    exact loop

theorem sp_eqf_Ty (l m : List Ty) (hl : l.length ≤ lim) (ht : ∀ t ∈ l, t.thin = true) (sg : List SObj) :
    (run cfg).r F_slices_EqualFunc__api_Type__api_Type_api_Type_api_Type [(.list 3 (l.map Ty.enc), .val), (.list 3 (m.map Ty.enc), .val), (.undef, .fn F_typ_Same [])] sg = some ([.bool (decide (l = m))], sg) := by
  have hb := big hl
  refine call_slices_EqualFunc__api_Type__api_Type_api_Type_api_Type _ _ _ ?_
  rw [eq_slices_EqualFunc__api_Type__api_Type_api_Type_api_Type]
  by_cases h5 : l.length = m.length
  · have loop := loop_two (l := l) (m := m) h5 (P := fun i => P_slices_EqualFunc__api_Type__api_Type_api_Type_api_Type_4h (run cfg) (.list 3 (m.map Ty.enc)) (.list 3 (l.map Ty.enc)) (.int .i64 l.length) (.int .i64 i) sg) (y := ([.bool true], sg)) (n := ([.bool false], sg))
      (by rw [eq_slices_EqualFunc__api_Type__api_Type_api_Type_api_Type_4h]; simp)
      (fun i h => by
        have h' : i < m.length := by omega
        rw [eq_slices_EqualFunc__api_Type__api_Type_api_Type_api_Type_4h]
        simp [h, h', dIdx_map h, dIdx_map h', Ty.eta, sp_typ_Same _ (ht _ (List.getElem_mem h)), dAdd1 (show i < 9223372036854775807 by omega)])
    simp [h5] at loop ⊢
    simp only [← h5] at loop ⊢
    rw [loop]
    by_cases e : l = m <;> simp [e]
  · have : l ≠ m := fun h => h5 (by rw [h])
    simp [Int.ofNat_inj, h5, this]

theorem sp_eqf_Pat (l m : List Pat) (hl : l.length ≤ lim) (ht : ∀ t ∈ l, ∀ u, (run cfg).p F_term_samePat [t.enc, u.enc] = some (.bool (decide (t = u)))) (sg : List SObj) :
    (run cfg).r F_slices_EqualFunc__api_Pat__api_Pat_api_Pat_api_Pat [(.list 7 (l.map Pat.enc), .val), (.list 7 (m.map Pat.enc), .val), (.undef, .fn F_term_samePat [])] sg = some ([.bool (decide (l = m))], sg) := by
  have hb := big hl
  refine call_slices_EqualFunc__api_Pat__api_Pat_api_Pat_api_Pat _ _ _ ?_
  rw [eq_slices_EqualFunc__api_Pat__api_Pat_api_Pat_api_Pat]
  by_cases h5 : l.length = m.length
  · have loop := loop_two (l := l) (m := m) h5 (P := fun i => P_slices_EqualFunc__api_Pat__api_Pat_api_Pat_api_Pat_4h (run cfg) (.list 7 (m.map Pat.enc)) (.list 7 (l.map Pat.enc)) (.int .i64 l.length) (.int .i64 i) sg) (y := ([.bool true], sg)) (n := ([.bool false], sg))
      (by rw [eq_slices_EqualFunc__api_Pat__api_Pat_api_Pat_api_Pat_4h]; simp)
      (fun i h => by
        have h' : i < m.length := by omega
        rw [eq_slices_EqualFunc__api_Pat__api_Pat_api_Pat_api_Pat_4h]
        simp [h, h', dIdx_map h, dIdx_map h', Pat.eta, ht _ (List.getElem_mem h), dAdd1 (show i < 9223372036854775807 by omega)])
    simp [h5] at loop ⊢
    simp only [← h5] at loop ⊢
    rw [loop]
    by_cases e : l = m <;> simp [e]
  · have : l ≠ m := fun h => h5 (by rw [h])
    simp [Int.ofNat_inj, h5, this]

theorem sp_eqf_Tm (l m : List Tm) (hl : l.length ≤ lim) (ht : ∀ t ∈ l, ∀ u, (run cfg).p F_term_Same [t.enc, u.enc] = some (.bool (decide (t = u)))) (sg : List SObj) :
    (run cfg).r F_slices_EqualFunc__api_Term__api_Term_api_Term_api_Term [(.list 20 (l.map Tm.enc), .val), (.list 20 (m.map Tm.enc), .val), (.undef, .fn F_term_Same [])] sg = some ([.bool (decide (l = m))], sg) := by
  have hb := big hl
  refine call_slices_EqualFunc__api_Term__api_Term_api_Term_api_Term _ _ _ ?_
  rw [eq_slices_EqualFunc__api_Term__api_Term_api_Term_api_Term]
  by_cases h5 : l.length = m.length
  · have loop := loop_two (l := l) (m := m) h5 (P := fun i => P_slices_EqualFunc__api_Term__api_Term_api_Term_api_Term_4h (run cfg) (.list 20 (m.map Tm.enc)) (.list 20 (l.map Tm.enc)) (.int .i64 l.length) (.int .i64 i) sg) (y := ([.bool true], sg)) (n := ([.bool false], sg))
      (by rw [eq_slices_EqualFunc__api_Term__api_Term_api_Term_api_Term_4h]; simp)
      (fun i h => by
        have h' : i < m.length := by omega
        rw [eq_slices_EqualFunc__api_Term__api_Term_api_Term_api_Term_4h]
        simp [h, h', dIdx_map h, dIdx_map h', Tm.eta, ht _ (List.getElem_mem h), dAdd1 (show i < 9223372036854775807 by omega)])
    simp [h5] at loop ⊢
    simp only [← h5] at loop ⊢
    rw [loop]
    by_cases e : l = m <;> simp [e]
  · have : l ≠ m := fun h => h5 (by rw [h])
    simp [Int.ofNat_inj, h5, this]

theorem sp_slices_Equal (l m : List Int) (hl : l.length ≤ lim) : (run cfg).p F_slices_Equal__int_int [encInts l, encInts m] = some (.bool (decide (l = m))) := by
  have hb := big hl
  refine call_slices_Equal__int_int _ _ ?_
  rw [eq_slices_Equal__int_int]
  by_cases h5 : l.length = m.length
  · have loop := loop_two (l := l) (m := m) h5 (P := fun i => P_slices_Equal__int_int_4h (run cfg) (encInts l) (encInts m) (.int .i64 l.length) (.int .i64 i)) (y := DV.bool true) (n := DV.bool false)
      (by rw [eq_slices_Equal__int_int_4h]; simp)
      (fun i h => by
        have h' : i < m.length := by omega
        rw [eq_slices_Equal__int_int_4h]
        simp [h, h', dIdx_ints h, dIdx_ints h', dAdd1 (show i < 9223372036854775807 by omega)])
    simp [h5] at loop ⊢
    simp only [← h5] at loop ⊢
    rw [loop]
    by_cases e : l = m <;> simp [e]
  · have : l ≠ m := fun h => h5 (by rw [h])
    simp [Int.ofNat_inj, h5, this]

theorem sp_term_samePat (a : Pat) : a.thin = true → ∀ b : Pat, (run cfg).p F_term_samePat [a.enc, b.enc] = some (.bool (decide (a = b))) := by
  induction a using Pat.ind with
  | h a ih =>
    intro ha b
    have hb := a.thin_len ha
    have kids := sp_eqf_Pat a.kids b.kids (by unfold lim; omega) (fun t ht u => ih t ht (Pat.thin_kid ha ht) u) []
    refine call_term_samePat _ _ ?_
    rw [eq_term_samePat]
    simp [Pat.ext_iff', kids]
    by_cases h1 : a.kind = b.kind <;> simp [h1]
    by_cases h2 : a.lo = b.lo <;> simp [h2]
    by_cases h3 : a.hi = b.hi <;> simp [h3]
    by_cases h4 : a.name = b.name <;> simp [h4]
    by_cases h5 : a.n = b.n <;> simp [h5]
    by_cases h6 : a.s = b.s <;> simp [h6]

theorem sp_term_Same (a : Tm) : a.fit → ∀ b : Tm, (run cfg).p F_term_Same [a.enc, b.enc] = some (.bool (decide (a = b))) := by
  induction a using Tm.ind with
  | h a ih =>
    intro ha b
    have kids := fun sg => sp_eqf_Tm a.kids b.kids (Nat.le_of_lt ha.one.kids) (fun t ht u => ih t ht (ha.kid ht) u) sg
    have pats := fun sg => sp_eqf_Pat a.pats b.pats (Nat.le_of_lt ha.one.pats) (fun t ht u => sp_term_samePat t (Pat.fit_thin (ha.one.pat t ht)) u) sg
    have args := fun sg => sp_eqf_Ty a.args b.args (Nat.le_of_lt ha.one.args) ha.one.arg1 sg
    have vars := sp_slices_Equal a.vars b.vars (Nat.le_of_lt ha.one.vars)
    have sa := sp_typ_Same a.a ha.one.a b.a
    have sb := sp_typ_Same a.b ha.one.b b.b
    refine call_term_Same _ _ ?_
    rw [eq_term_Same]
    simp [Tm.ext_iff']
    by_cases h1 : a.kind = b.kind <;> simp [h1]
    by_cases h2 : a.lo = b.lo <;> simp [h2]
    by_cases h3 : a.hi = b.hi <;> simp [h3]
    by_cases h4 : a.name = b.name <;> simp [h4]
    by_cases h5 : a.arg = b.arg <;> simp [h5]
    by_cases h6 : a.n = b.n <;> simp [h6]
    by_cases h7 : a.s = b.s <;> simp [h7]
    by_cases h8 : a.op = b.op <;> simp [h8]
    by_cases h9 : a.label = b.label <;> simp [h9]
    by_cases h10 : a.neg = b.neg <;> simp [h10]
    rw [eq_term_Same_3]
    simp [vars, Ty.eta, sa, sb, args, pats, kids]
    by_cases k1 : a.vars = b.vars <;> simp [k1]
    by_cases k2 : a.a = b.a <;> simp [k2]
    by_cases k3 : a.b = b.b <;> simp [k3]
    by_cases k4 : a.args = b.args <;> simp [k4]
    by_cases k5 : a.pats = b.pats <;> simp [k5]

theorem dApp_strs {a b : List ByteArray} (h : a.length + b.length ≤ lim) : dApp 1 (encStrs a) (encStrs b) = some (encStrs (a ++ b)) := by
  show dApp 1 (.list 1 (a.map DV.str)) (.list 1 (b.map DV.str)) = _
  rw [dApp_list (by simpa using h)]
  simp [encStrs]

theorem encStrs_nil : (.list 1 [] : DV) = encStrs [] := rfl

theorem encStrs_one (s : ByteArray) : (.list 1 [.str s] : DV) = encStrs [s] := rfl

theorem encStrs_two (s t : ByteArray) : (.list 1 [.str s, .str t] : DV) = encStrs [s, t] := rfl

theorem sp_term_patNames (t : Pat) : ∀ (l : List ByteArray) (sg : List SObj), l.length + t.size ≤ lim → (run cfg).r F_term_patNames [(t.enc, .val), (encStrs l, .own)] sg = some ([encStrs (t.namesOn l)], sg) := by
  induction t using Pat.ind with
  | h t ih =>
    intro l sg hl
    have hb := Pat.thin_len _ (Pat.thin_of_size (show t.size ≤ lim by omega))
    have hB := big hl
    refine call_term_patNames _ _ _ ?_
    have loop : ∀ l : List ByteArray, l.length + (t.kids.map Pat.size).sum ≤ lim → P_term_patNames_4h (run cfg) (encStrs l) (.list 7 (t.kids.map Pat.enc)) (.int .i64 t.kids.length) (.int .i64 0) sg = some ([encStrs (t.kids.foldl (fun l k => k.namesOn l) l)], sg) :=
      loop_fold (l := t.kids) (P := fun i (a : List ByteArray) => P_term_patNames_4h (run cfg) (encStrs a) (.list 7 (t.kids.map Pat.enc)) (.int .i64 t.kids.length) (.int .i64 i) sg) (g := fun a k => k.namesOn a) (fin := fun a => some ([encStrs a], sg))
        (I := fun i a => a.length + ((t.kids.drop i).map Pat.size).sum ≤ lim)
        (fun a _ => by rw [eq_term_patNames_4h]; simp)
        (fun i h a ha => by
          rw [List.drop_eq_getElem_cons h, List.map_cons, List.sum_cons] at ha
          have h1 := Pat.namesOn_len t.kids[i] a
          refine ⟨?_, by omega⟩
          rw [eq_term_patNames_4h]
          simp [h, dIdx_map h, Pat.eta, ih _ (List.getElem_mem h) a sg (by omega), dAdd1 (show i < 9223372036854775807 by omega)])
    have hsz := Pat.size_eq t
    rw [eq_term_patNames, Pat.namesOn_eq]
    simp
    by_cases h6 : t.kind = 2
    · simp [h6]
      rw [show encStrs l = .list 1 (l.map fun n => .str n) from rfl, dApp_list (by simp; omega)]
      have := loop (l ++ [t.name]) (by simp; omega)
      simpa [encStrs] using this
    · simp [h6, loop l (by omega)]

theorem sp_term_binds (t : Tm) (ht : t.fit1) (i : Nat) (hi : t.kind = 14 → i ≤ t.pats.length) : (run cfg).p F_term_binds [t.enc, .int .i64 i] = some (encStrs (t.binds i)) := by
  have hp := big (Nat.le_of_lt ht.pats)
  refine call_term_binds _ _ ?_
  have p5 : ¬ (t.kind = 9 ∨ (t.kind = 11 ∧ i = 1) ∨ (t.kind = 12 ∧ i = 1)) → P_term_binds_5 (run cfg) (.int .i64 i) t.enc = some (encStrs (t.binds i)) := by
    intro h
    rw [eq_term_binds_5]
    unfold Tm.binds
    rw [if_neg h]
    by_cases h1 : t.kind = 12
    · simp [h1, encStrs_two]
    · by_cases h2 : t.kind = 14
      · by_cases h3 : 0 < i
        · have hlt : i - 1 < t.pats.length := by have := hi h2; omega
          have e1 : dBin .sub (.int .i64 (i : Int)) (.int .i64 1) = some (.int .i64 ((i - 1 : Nat) : Int)) := by
            rw [dBin_sub, wrap_id (by omega) (by have := hi h2; omega)]
            congr 3
            omega
          have nm := sp_term_patNames t.pats[i - 1] [] [] (by have := (ht.pat _ (List.getElem_mem hlt)).size; simpa using this)
          rw [← encStrs_nil] at nm
          simp [h1, h2, h3, e1, dIdx_map hlt, Pat.eta, nm, List.getElem?_eq_getElem hlt, Pat.names]
        · simp [h1, h2, h3, encStrs_nil]
      · simp [h1, h2, encStrs_nil]
  have one : t.kind = 9 ∨ (t.kind = 11 ∧ i = 1) ∨ (t.kind = 12 ∧ i = 1) → t.binds i = [t.name] := fun h => by unfold Tm.binds; rw [if_pos h]
  rw [eq_term_binds]
  have i1 : decide ((i : Int) = 1) = decide (i = 1) := by rw [decide_eq_decide]; omega
  by_cases h9 : t.kind = 9
  · simp [h9, one (.inl h9), encStrs_one]
  · by_cases h11 : t.kind = 11
    · by_cases h1 : i = 1
      · have o1 := one (.inr (.inl ⟨h11, h1⟩))
        subst h1
        simp [h11, o1, encStrs_one]
      · have := p5 (by rintro (h | h | h); exact h9 h; exact h1 h.2; exact h1 h.2)
        simp [h11, h1, i1, this]
    · by_cases h12 : t.kind = 12
      · by_cases h1 : i = 1
        · have o1 := one (.inr (.inr ⟨h12, h1⟩))
          subst h1
          simp [h12, o1, encStrs_one]
        · have := p5 (by rintro (h | h | h); exact h9 h; exact h1 h.2; exact h1 h.2)
          simp [h12, h1, i1, this]
      · have := p5 (by rintro (h | h | h); exact h9 h; exact h11 h.1; exact h12 h.1)
        simp [h9, h11, h12, this]

theorem sp_r17_Binds (t : Tm) (ht : t.fit1) (i : Nat) (hi : t.kind = 14 → i ≤ t.pats.length) : (run cfg).p F_r17_Binds [t.enc, .int .i64 i] = some (encStrs (t.binds i)) := by
  have hp := big (Nat.le_of_lt ht.pats)
  refine call_r17_Binds _ _ ?_
  have p5 : ¬ (t.kind = 9 ∨ (t.kind = 11 ∧ i = 1) ∨ (t.kind = 12 ∧ i = 1)) → P_r17_Binds_5 (run cfg) (.int .i64 i) t.enc = some (encStrs (t.binds i)) := by
    intro h
    rw [eq_r17_Binds_5]
    unfold Tm.binds
    rw [if_neg h]
    by_cases h1 : t.kind = 12
    · simp [h1, encStrs_two]
    · by_cases h2 : t.kind = 14
      · by_cases h3 : 0 < i
        · have hlt : i - 1 < t.pats.length := by have := hi h2; omega
          have e1 : dBin .sub (.int .i64 (i : Int)) (.int .i64 1) = some (.int .i64 ((i - 1 : Nat) : Int)) := by
            rw [dBin_sub, wrap_id (by omega) (by have := hi h2; omega)]
            congr 3
            omega
          have nm := sp_r05_Names t.pats[i - 1] (ht.pat _ (List.getElem_mem hlt)).size
          simp [h1, h2, h3, e1, dIdx_map hlt, Pat.eta, nm, List.getElem?_eq_getElem hlt]
        · simp [h1, h2, h3, encStrs_nil]
      · simp [h1, h2, encStrs_nil]
  have one : t.kind = 9 ∨ (t.kind = 11 ∧ i = 1) ∨ (t.kind = 12 ∧ i = 1) → t.binds i = [t.name] := fun h => by unfold Tm.binds; rw [if_pos h]
  rw [eq_r17_Binds]
  have i1 : decide ((i : Int) = 1) = decide (i = 1) := by rw [decide_eq_decide]; omega
  by_cases h9 : t.kind = 9
  · simp [h9, one (.inl h9), encStrs_one]
  · by_cases h11 : t.kind = 11
    · by_cases h1 : i = 1
      · have o1 := one (.inr (.inl ⟨h11, h1⟩))
        subst h1
        simp [h11, o1, encStrs_one]
      · have := p5 (by rintro (h | h | h); exact h9 h; exact h1 h.2; exact h1 h.2)
        simp [h11, h1, i1, this]
    · by_cases h12 : t.kind = 12
      · by_cases h1 : i = 1
        · have o1 := one (.inr (.inr ⟨h12, h1⟩))
          subst h1
          simp [h12, o1, encStrs_one]
        · have := p5 (by rintro (h | h | h); exact h9 h; exact h1 h.2; exact h1 h.2)
          simp [h12, h1, i1, this]
      · have := p5 (by rintro (h | h | h); exact h9 h; exact h11 h.1; exact h12 h.1)
        simp [h9, h11, h12, this]

theorem sp_r05_Rise (l : List ByteArray) (s : ByteArray) (hl : l.length + 1 ≤ lim) : (run cfg).p F_r05_Rise [encStrs l, .str s] = some (encStrs (rise l s)) := by
  have hb := big hl
  refine call_r05_Rise _ _ ?_
  rw [eq_r05_Rise]
  have p6 : ∀ i, i ≤ l.length → P_r05_Rise_6 (run cfg) (encStrs l) (.str s) (.int .i64 (i : Int)) = some (encStrs (l.take i ++ s :: l.drop i)) := by
    intro i hi
    have e1 : dSlice 1 (encStrs l) none (some (.int .i64 (i : Int))) = some (encStrs (l.take i)) := dSlice_pre hi 1
    have e2 : dSlice 1 (encStrs l) (some (.int .i64 (i : Int))) none = some (encStrs (l.drop i)) := by simp [dSlice, bnd, hi, encStrs, List.map_drop, List.take_of_length_le]
    rw [eq_r05_Rise_6]
    simp only [e1, e2, ob_some', encStrs_nil, encStrs_one, isCell_str, og_true']
    rw [dApp_strs (by simp; omega)]
    simp only [ob_some']
    rw [dApp_strs (by simp; omega)]
    simp only [ob_some']
    rw [dApp_strs (by simp; omega)]
    simp
  have p4 : ∀ i, i ≤ l.length → (∀ (h : i < l.length), strLt l[i] s = false) → P_r05_Rise_4 (run cfg) (encStrs l) (.str s) (.int .i64 (i : Int)) = some (encStrs (l.take i ++ rise (l.drop i) s)) := by
    intro i hi hn
    rw [eq_r05_Rise_4]
    by_cases h : i < l.length
    · have h0 := hn h
      rw [List.drop_eq_getElem_cons h]
      simp only [dLen_strs, ob_some', dBin_lss, Int.ofNat_lt, h, decide_true, ogd_bool, if_true, dIdx_strs h, isLeaf_str, og_true', dBin_seql, oif_bool, decide_eq_true_eq, rise, h0, Bool.false_eq_true, if_false]
      by_cases he : l[i] = s
      · simp only [he, if_true]
        congr 2
        rw [← he, ← List.drop_eq_getElem_cons h, List.take_append_drop]
      · simp only [he, if_false]
        rw [p6 i hi, List.drop_eq_getElem_cons h]
    · have e : i = l.length := by omega
      subst e
      simp only [dLen_strs, ob_some', dBin_lss, Int.lt_irrefl, decide_false, ogd_bool, Bool.false_eq_true, if_false, List.drop_length, rise]
      rw [p6 _ (Nat.le_refl _), List.drop_length]
  have loop : ∀ (n i : Nat), i + n = l.length → P_r05_Rise_2h (run cfg) (encStrs l) (.str s) (.int .i64 (i : Int)) = some (encStrs (l.take i ++ rise (l.drop i) s)) := by
    intro n
    induction n with
    | zero =>
      intro i hi
      have e : i = l.length := by omega
      have := p4 i (by omega) (fun h => by omega)
      subst e
      rw [eq_r05_Rise_2h]
      simp only [dLen_strs, ob_some', dBin_lss, Int.lt_irrefl, decide_false, ogd_bool, Bool.false_eq_true, if_false]
      exact this
    | succ n ih =>
      intro i hi
      have h : i < l.length := by omega
      rw [eq_r05_Rise_2h]
      simp only [dLen_strs, ob_some', dBin_lss, Int.ofNat_lt, h, decide_true, ogd_bool, if_true, dIdx_strs h, isLeaf_str, og_true', dBin_slss, oif_bool]
      cases h0 : strLt l[i] s
      · exact p4 i (by omega) (fun _ => h0)
      · simp only [if_true]
        rw [dAdd1 (by omega)]
        simp only [ob_some']
        rw [ih (i + 1) (by omega)]
        rw [List.drop_eq_getElem_cons h]
        simp only [rise, h0, if_true]
        rw [List.take_succ_eq_append_getElem h, List.append_assoc]
        rfl
  have := loop l.length 0 (by omega)
  simpa using this

theorem sp_keep_Texts (l m : List ByteArray) (hl : l.length ≤ lim) : (run cfg).p F_keep_Texts [encStrs l, encStrs m] = some (.bool (decide (l = m))) := by
  have hb := big hl
  refine call_keep_Texts _ _ ?_
  rw [eq_keep_Texts]
  by_cases h5 : l.length = m.length
  · have loop := loop_two (l := l) (m := m) h5 (P := fun i => P_keep_Texts_4h (run cfg) (encStrs l) (encStrs m) (.int .i64 i)) (y := DV.bool true) (n := DV.bool false)
      (by rw [eq_keep_Texts_4h]; simp)
      (fun i h => by
        have h' : i < m.length := by omega
        rw [eq_keep_Texts_4h]
        simp [h, h', dIdx_strs h, dIdx_strs h', dAdd1 (show i < 9223372036854775807 by omega)])
    simp [h5] at loop ⊢
    rw [loop]
    by_cases e : l = m <;> simp [e]
  · have : l ≠ m := fun h => h5 (by rw [h])
    simp [Int.ofNat_inj, h5, this]

theorem sp_r17_free (t : Tm) : t.fit → t.right = true → ∀ (B l : List ByteArray), B.length + 2 * t.mass ≤ lim → l.length + t.size ≤ lim →
    (run cfg).p F_r17_free [t.enc, encStrs B, encStrs l] = some (encStrs ((t.fr B).foldl rise l)) := by
  induction t using Tm.ind with
  | h t ih =>
    intro ft rt B l hB hl
    have hk := big (Nat.le_of_lt ft.one.kids)
    have loop : ∀ (n j : Nat) (l : List ByteArray), j + n = t.kids.length → l.length + ((t.kids.drop j).map Tm.size).sum ≤ lim →
        P_r17_free_4h (run cfg) (encStrs B) (encStrs l) (.int .i64 (j : Int)) t.enc = some (encStrs ((Tm.frL t.binds j (t.kids.drop j) B).foldl rise l)) := by
      intro n
      induction n with
      | zero =>
        intro j l hj _
        have e : j = t.kids.length := by omega
        subst e
        rw [eq_r17_free_4h, List.drop_length, Tm.frL_nil]
        simp
      | succ n ihn =>
        intro j l hj hl
        have h : j < t.kids.length := by omega
        have hm := t.binds_len j
        have hmk := mem_sum (f := Tm.mass) (List.getElem_mem h)
        rw [List.drop_eq_getElem_cons h, List.map_cons, List.sum_cons] at hl
        have hbi := sp_r17_Binds t ft.one j (fun h14 => by have := Tm.kids14 rt h14; omega)
        have hkid := ih _ (List.getElem_mem h) (ft.kid (List.getElem_mem h)) (Tm.right_kid rt (List.getElem_mem h)) (B ++ t.binds j) l (by simp; omega) (by omega)
        have hlen : ((t.kids[j].fr (B ++ t.binds j)).foldl rise l).length ≤ l.length + t.kids[j].size := by
          have h1 := rises_len l (t.kids[j].fr (B ++ t.binds j))
          have h2 := t.kids[j].fr_len (B ++ t.binds j)
          omega
        have nx := ihn (j + 1) ((t.kids[j].fr (B ++ t.binds j)).foldl rise l) (by omega) (by omega)
        rw [eq_r17_free_4h]
        simp only [Tm.proj19, dLen_list, List.length_map, ob_some', dBin_lss, Int.ofNat_lt, h, decide_true, oif_bool, if_true, dIdx_map h, Tm.eta, encStrs_nil]
        rw [dApp_strs (by simp; omega)]
        simp only [ob_some', List.nil_append]
        have ee : (DV.agg [proj 0 t.enc, proj 1 t.enc, proj 2 t.enc, proj 3 t.enc, proj 4 t.enc, proj 5 t.enc, proj 6 t.enc, proj 7 t.enc, proj 8 t.enc, proj 9 t.enc, proj 10 t.enc, proj 11 t.enc, proj 12 t.enc, proj 13 t.enc, proj 14 t.enc, proj 15 t.enc, proj 16 t.enc, proj 17 t.enc, proj 18 t.enc, proj 19 t.enc]) = t.enc := by simp [Tm.eta]
        have ek : (DV.agg [proj 0 t.kids[j].enc, proj 1 t.kids[j].enc, proj 2 t.kids[j].enc, proj 3 t.kids[j].enc, proj 4 t.kids[j].enc, proj 5 t.kids[j].enc, proj 6 t.kids[j].enc, proj 7 t.kids[j].enc, proj 8 t.kids[j].enc, proj 9 t.kids[j].enc, proj 10 t.kids[j].enc, proj 11 t.kids[j].enc, proj 12 t.kids[j].enc, proj 13 t.kids[j].enc, proj 14 t.kids[j].enc, proj 15 t.kids[j].enc, proj 16 t.kids[j].enc, proj 17 t.kids[j].enc, proj 18 t.kids[j].enc, proj 19 t.kids[j].enc]) = t.kids[j].enc := by simp [Tm.eta]
        simp only [Tm.proj19] at ee ek
        rw [ee, ek, hbi]
        simp only [ob_some']
        rw [dApp_strs (by omega)]
        simp only [ob_some', hkid]
        rw [dAdd1 (by omega)]
        simp only [ob_some', nx]
        rw [List.drop_eq_getElem_cons h, Tm.frL_cons, List.foldl_append]
    have hsz := t.size_eq
    have p3 : ∀ l : List ByteArray, l.length + (t.kids.map Tm.size).sum ≤ lim → P_r17_free_3 (run cfg) (encStrs B) (encStrs l) t.enc = some (encStrs ((Tm.frL t.binds 0 t.kids B).foldl rise l)) := by
      intro l hl
      rw [eq_r17_free_3]
      have := loop t.kids.length 0 l (by omega) (by simpa using hl)
      simpa using this
    refine call_r17_free _ _ _ ?_
    rw [eq_r17_free, Tm.fr_eq]
    have hh := sp_r05_Has B (by omega) t.name
    have hr := sp_r05_Rise l t.name (by omega)
    have p3a := p3 l (by omega)
    have p3b := p3 (rise l t.name) (by have := rise_len l t.name; omega)
    by_cases h1 : t.kind = 1
    · cases h2 : hasS B t.name
      · have h2' : (B.any fun x => decide (x = t.name)) = false := h2
        simp [h1, hh, h2, h2', hr, p3b]
      · have h2' : (B.any fun x => decide (x = t.name)) = true := h2
        simp only [isAggN_Tm, og_true', Tm.proj0, Tm.proj3, dBin_eql, ob_some', ogd_bool, h1, decide_true, if_true, hh, h2, dUn_not, Bool.not_true, oif_bool, Bool.false_eq_true, if_false, p3a, h2', and_false, reduceCtorEq, List.nil_append]
    · simp [h1, p3a]

theorem sp_r17_Free (t : Tm) (ft : t.fit) (rt : t.right = true) (hm : 2 * t.mass ≤ lim) : (run cfg).p F_r17_Free [t.enc] = some (encStrs t.free) := by
  refine call_r17_Free _ ?_
  rw [eq_r17_Free]
  have hs := t.size_mass
  have := sp_r17_free t ft rt [] [] (by simpa using hm) (by simp; omega)
  rw [← encStrs_nil] at this
  simp [Tm.eta, this, Tm.free]

/-- How often a name is bound. -/
def cn (L : List ByteArray) (s : ByteArray) : Int := ((L.countP fun x => decide (x = s)) : Nat)

theorem cn_pos (L : List ByteArray) (s : ByteArray) : 0 ≤ cn L s := by unfold cn; omega

theorem cn_le (L : List ByteArray) (s : ByteArray) : cn L s ≤ L.length := by
  unfold cn
  have := List.countP_le_length (p := fun x => decide (x = s)) (l := L)
  omega

theorem cn_zero (L : List ByteArray) (s : ByteArray) : decide (cn L s = 0) = !(L.any fun x => decide (x = s)) := by
  unfold cn
  rw [Bool.eq_iff_iff]
  simp only [decide_eq_true_eq, Bool.not_eq_true', List.any_eq_false, decide_eq_true_eq]
  rw [show ((L.countP fun x => decide (x = s) : Nat) : Int) = 0 ↔ (L.countP fun x => decide (x = s)) = 0 by omega, List.countP_eq_zero]
  simp

theorem cn_inc {es : List (DV × DV)} {L : List ByteArray} (h : CntS es (cn L)) (s : ByteArray) : CntS (mSet es (.str s) (.int .i64 (cn L s + 1))) (cn (L ++ [s])) := by
  intro v
  rw [h.set s (cn L s + 1) v]
  congr 1
  unfold cn
  by_cases e : s = v
  · subst e; simp [List.countP_append]
  · simp [List.countP_append, e]

theorem cn_dec {es : List (DV × DV)} {A D : List ByteArray} {s : ByteArray} (h : CntS es (cn (A ++ s :: D))) : CntS (mSet es (.str s) (.int .i64 (cn (A ++ s :: D) s - 1))) (cn (A ++ D)) := by
  intro v
  rw [h.set s (cn (A ++ s :: D) s - 1) v]
  congr 1
  unfold cn
  by_cases e : s = v
  · subst e; simp [List.countP_append]; omega
  · simp [List.countP_append, e]

def sgT (O B : List (DV × DV)) : List SObj := [.map true O, .map true B]

theorem sp_term_free (t : Tm) : t.fit → t.right = true → ∀ (O B : List (DV × DV)) (P : ByteArray → Prop) (L : List ByteArray), KeysAre O P → CntS B (cn L) → L.length + 2 * t.mass ≤ lim →
    ∃ O' B', (run cfg).r F_term_free [(t.enc, .val), (.undef, .map 1), (.undef, .map 0)] (sgT O B) = some ([], sgT O' B') ∧ KeysAre O' (fun s => P s ∨ s ∈ t.fr L) ∧ CntS B' (cn L) := by
  induction t using Tm.ind with
  | h t ih =>
    intro ft rt O B P L hO hB hL
    have hk := big (Nat.le_of_lt ft.one.kids)
    have hm0 := t.mass_pos
    -- the names of one kid, unbound
    have l14 : ∀ (l : List ByteArray) (i : DV) (k : Nat), L.length + l.length ≤ lim → ∀ (n j : Nat) (O B : List (DV × DV)), j + n = l.length → CntS B (cn (L ++ l.drop j)) →
        ∃ B', P_term_free_14h (run cfg) 1 0 (.list 20 (t.kids.map Tm.enc)) (.int .i64 t.kids.length) i (encStrs l) (.int .i64 l.length) (.int .i64 (j : Int)) t.enc (sgT O B) =
          (ob (dBin .add i (.int .i64 1)) fun d => P_term_free_4h (run cfg) 1 0 (.list 20 (t.kids.map Tm.enc)) (.int .i64 t.kids.length) d t.enc (sgT O B')) ∧ CntS B' (cn L) := by
      intro l i _ hl n
      have hlb := big hl
      induction n with
      | zero =>
        intro j O B hj hc
        have e : j = l.length := by omega
        subst e
        refine ⟨B, ?_, by rwa [List.drop_length, List.append_nil] at hc⟩
        rw [eq_term_free_14h]
        simp
      | succ n ihn =>
        intro j O B hj hc
        have h : j < l.length := by omega
        rw [List.drop_eq_getElem_cons h] at hc
        obtain ⟨B', h1, h2⟩ := ihn (j + 1) O (mSet B (.str l[j]) (.int .i64 (cn (L ++ l[j] :: l.drop (j + 1)) l[j] - 1))) (by omega) (cn_dec hc)
        refine ⟨B', ?_, h2⟩
        rw [eq_term_free_14h]
        have c1 := hc l[j]
        have c2 := cn_pos (L ++ l[j] :: l.drop (j + 1)) l[j]
        have c3 := cn_le (L ++ l[j] :: l.drop (j + 1)) l[j]
        have c4 : (L ++ l[j] :: l.drop (j + 1)).length ≤ 4294967296 := by simp; unfold lim at hl; omega
        have e1 : dBin .sub (.int .i64 (cn (L ++ l[j] :: l.drop (j + 1)) l[j])) (.int .i64 1) = some (.int .i64 (cn (L ++ l[j] :: l.drop (j + 1)) l[j] - 1)) := by
          rw [dBin_sub, wrap_id (by omega) (by omega)]
        simp only [dBin_lss, Int.ofNat_lt, h, decide_true, ob_some', oif_bool, if_true, dIdx_strs h, isLeaf_str, og_true', isKey_str, Bool.and_true, sgT, sgMap, List.getElem?_cons_succ, List.getElem?_cons_zero, BEq.rfl, c1, e1, dAdd1 (show j < 9223372036854775807 by omega), List.set_cons_succ, List.set_cons_zero]
        exact h1
    -- the names of one kid, bound
    have l8 : ∀ (l : List ByteArray) (i : DV) (k : Tm) (O : List (DV × DV)) (Z : List (DV × DV) → Option (List DV × List SObj)), L.length + l.length ≤ lim → (∀ B, CntS B (cn (L ++ l)) → (ob ((run cfg).r F_term_free [(k.enc, .val), (.undef, .map 1), (.undef, .map 0)] (sgT O B)) fun q => P_term_free_14h (run cfg) 1 0 (.list 20 (t.kids.map Tm.enc)) (.int .i64 t.kids.length) i (encStrs l) (.int .i64 l.length) (.int .i64 0) t.enc q.2) = Z B) →
        ∀ (n j : Nat) (B : List (DV × DV)), j + n = l.length → CntS B (cn (L ++ l.take j)) →
        ∃ B', P_term_free_8h (run cfg) 1 0 (encStrs l) (.list 20 (t.kids.map Tm.enc)) (.int .i64 t.kids.length) i (encStrs l) (.int .i64 l.length) (.int .i64 (j : Int)) t.enc k.enc (sgT O B) = Z B' ∧ CntS B' (cn (L ++ l)) := by
      intro l i k O Z hl hZ n
      have hlb := big hl
      induction n with
      | zero =>
        intro j B hj hc
        have e : j = l.length := by omega
        subst e
        rw [List.take_length] at hc
        refine ⟨B, ?_, hc⟩
        rw [eq_term_free_8h, ← hZ B hc]
        simp [Tm.eta]
      | succ n ihn =>
        intro j B hj hc
        have h : j < l.length := by omega
        have hc' := cn_inc hc l[j]
        rw [List.append_assoc, ← List.take_succ_eq_append_getElem h] at hc'
        obtain ⟨B', h1, h2⟩ := ihn (j + 1) (mSet B (.str l[j]) (.int .i64 (cn (L ++ l.take j) l[j] + 1))) (by omega) hc'
        refine ⟨B', ?_, h2⟩
        rw [eq_term_free_8h]
        have c1 := hc l[j]
        have c2 := cn_pos (L ++ l.take j) l[j]
        have c3 := cn_le (L ++ l.take j) l[j]
        have c4 : (L ++ l.take j).length ≤ 4294967296 := by simp; unfold lim at hl; omega
        simp only [dBin_lss, Int.ofNat_lt, h, decide_true, ob_some', oif_bool, if_true, dIdx_strs h, isLeaf_str, og_true', isKey_str, Bool.and_true, sgT, sgMap, List.getElem?_cons_succ, List.getElem?_cons_zero, BEq.rfl, c1, dAdd (show (-9223372036854775808 : Int) ≤ cn (L ++ l.take j) l[j] + 1 by omega) (show cn (L ++ l.take j) l[j] + 1 ≤ 9223372036854775807 by omega), dAdd1 (show j < 9223372036854775807 by omega), List.set_cons_succ, List.set_cons_zero]
        exact h1
    -- the kids
    have l4 : ∀ (n j : Nat) (O B : List (DV × DV)) (P : ByteArray → Prop), j + n = t.kids.length → KeysAre O P → CntS B (cn L) →
        ∃ O' B', P_term_free_4h (run cfg) 1 0 (.list 20 (t.kids.map Tm.enc)) (.int .i64 t.kids.length) (.int .i64 (j : Int)) t.enc (sgT O B) = some ([], sgT O' B') ∧ KeysAre O' (fun s => P s ∨ s ∈ Tm.frL t.binds j (t.kids.drop j) L) ∧ CntS B' (cn L) := by
      intro n
      induction n with
      | zero =>
        intro j O B P hj hO hB
        have e : j = t.kids.length := by omega
        subst e
        refine ⟨O, B, ?_, ?_, hB⟩
        · rw [eq_term_free_4h]; simp
        · rw [List.drop_length, Tm.frL_nil]
          exact hO.congr fun s => by simp
      | succ n ihn =>
        intro j O B P hj hO hB
        have h : j < t.kids.length := by omega
        have hm := t.binds_len j
        have hmk := mem_sum (f := Tm.mass) (List.getElem_mem h)
        have hbi := sp_term_binds t ft.one j (fun h14 => by have := Tm.kids14 rt h14; omega)
        have hll : L.length + (t.binds j).length ≤ lim := by omega
        -- the kid itself
        obtain ⟨O1, k1, k2, k3, k4⟩ : ∃ O1 B1, (P_term_free_8h (run cfg) 1 0 (encStrs (t.binds j)) (.list 20 (t.kids.map Tm.enc)) (.int .i64 t.kids.length) (.int .i64 (j : Int)) (encStrs (t.binds j)) (.int .i64 (t.binds j).length) (.int .i64 0) t.enc t.kids[j].enc (sgT O B) =
            P_term_free_14h (run cfg) 1 0 (.list 20 (t.kids.map Tm.enc)) (.int .i64 t.kids.length) (.int .i64 (j : Int)) (encStrs (t.binds j)) (.int .i64 (t.binds j).length) (.int .i64 0) t.enc (sgT O1 B1)) ∧ KeysAre O1 (fun s => P s ∨ s ∈ t.kids[j].fr (L ++ t.binds j)) ∧ CntS B1 (cn (L ++ t.binds j)) := by
          obtain ⟨B', e1, e2⟩ := l8 (t.binds j) (.int .i64 (j : Int)) t.kids[j] O _ hll (fun B _ => rfl) (t.binds j).length 0 B (by omega) (by rw [List.take_zero, List.append_nil]; exact hB)
          obtain ⟨O1, B1, f1, f2, f3⟩ := ih _ (List.getElem_mem h) (ft.kid (List.getElem_mem h)) (Tm.right_kid rt (List.getElem_mem h)) O B' P (L ++ t.binds j) hO e2 (by simp; omega)
          refine ⟨O1, B1, ?_, f2, f3⟩
          simp only [Int.natCast_zero, Int.ofNat_zero, Int.cast_ofNat_Int] at e1
          rw [e1, f1]
          rfl
        obtain ⟨B2, g1, g2⟩ := l14 (t.binds j) (.int .i64 (j : Int)) j hll (t.binds j).length 0 O1 k1 (by omega) (by rw [List.drop_zero]; exact k4)
        obtain ⟨O', B', i1, i2, i3⟩ := ihn (j + 1) O1 B2 _ (by omega) k3 g2
        refine ⟨O', B', ?_, ?_, i3⟩
        · rw [eq_term_free_4h]
          have ee : (DV.agg [proj 0 t.enc, proj 1 t.enc, proj 2 t.enc, proj 3 t.enc, proj 4 t.enc, proj 5 t.enc, proj 6 t.enc, proj 7 t.enc, proj 8 t.enc, proj 9 t.enc, proj 10 t.enc, proj 11 t.enc, proj 12 t.enc, proj 13 t.enc, proj 14 t.enc, proj 15 t.enc, proj 16 t.enc, proj 17 t.enc, proj 18 t.enc, proj 19 t.enc]) = t.enc := by simp [Tm.eta]
          simp only [dBin_lss, Int.ofNat_lt, h, decide_true, ob_some', oif_bool, if_true, dIdx_map h, ee, hbi, dLen_strs, k2]
          simp only [Int.natCast_zero, Int.ofNat_zero, Int.cast_ofNat_Int] at g1
          rw [g1, dAdd1 (by omega)]
          exact i1
        · refine i2.congr fun s => ?_
          rw [List.drop_eq_getElem_cons h, Tm.frL_cons, List.mem_append, or_assoc]
    have l3 : ∀ (O B : List (DV × DV)) (P : ByteArray → Prop), KeysAre O P → CntS B (cn L) → ∃ O' B', P_term_free_3 (run cfg) 1 0 t.enc (sgT O B) = some ([], sgT O' B') ∧ KeysAre O' (fun s => P s ∨ s ∈ Tm.frL t.binds 0 t.kids L) ∧ CntS B' (cn L) := by
      intro O B P hO hB
      obtain ⟨O', B', h1, h2, h3⟩ := l4 t.kids.length 0 O B P (by omega) hO hB
      refine ⟨O', B', ?_, by simpa using h2, h3⟩
      rw [eq_term_free_3]
      simpa using h1
    by_cases h1 : t.kind = 1 ∧ (L.any fun x => decide (x = t.name)) = false
    · obtain ⟨cnt, hcnt⟩ := hO.get t.name
      obtain ⟨O', B', e1, e2, e3⟩ := l3 (mSet O (.str t.name) (.int .i64 (IntKind.i64.wrap (cnt + 1)))) B _ (hO.set t.name _) hB
      refine ⟨O', B', call_term_free _ _ _ _ ?_, ?_, e3⟩
      · have cb := hB t.name
        have cz := cn_zero L t.name
        rw [h1.2, Bool.not_false] at cz
        rw [eq_term_free]
        simp only [isAggN_Tm, og_true', Tm.proj0, Tm.proj3, dBin_eql, ob_some', ogd_bool, h1.1, decide_true, if_true, isKey_str, Bool.and_true, sgT, sgMap, List.getElem?_cons_succ, List.getElem?_cons_zero, BEq.rfl, cb, cz, oif_bool, hcnt, dBin_add, List.set_cons_zero]
        exact e1
      · refine e2.congr fun s => ?_
        rw [Tm.fr_eq, if_pos h1]
        simp only [List.mem_append, List.mem_singleton]
        constructor
        · rintro ((h | h) | h)
          · exact .inr (.inl h)
          · exact .inl h
          · exact .inr (.inr h)
        · rintro (h | h | h)
          · exact .inl (.inr h)
          · exact .inl (.inl h)
          · exact .inr h
    · obtain ⟨O', B', e1, e2, e3⟩ := l3 O B P hO hB
      refine ⟨O', B', call_term_free _ _ _ _ ?_, ?_, e3⟩
      · have cb := hB t.name
        have cz := cn_zero L t.name
        rw [eq_term_free]
        by_cases hk1 : t.kind = 1
        · have : (L.any fun x => decide (x = t.name)) = true := by
            cases hh : L.any fun x => decide (x = t.name)
            · exact absurd ⟨hk1, hh⟩ h1
            · rfl
          rw [this, Bool.not_true] at cz
          simp only [isAggN_Tm, og_true', Tm.proj0, Tm.proj3, dBin_eql, ob_some', ogd_bool, hk1, decide_true, if_true, isKey_str, Bool.and_true, sgT, sgMap, List.getElem?_cons_succ, List.getElem?_cons_zero, BEq.rfl, cb, cz, oif_bool, Bool.false_eq_true, if_false]
          exact e1
        · simp only [isAggN_Tm, og_true', Tm.proj0, dBin_eql, ob_some', ogd_bool, hk1, decide_false, Bool.false_eq_true, if_false]
          exact e1
      · refine e2.congr fun s => ?_
        rw [Tm.fr_eq, if_neg h1, List.nil_append]

theorem sp_term_Free (t : Tm) (ft : t.fit) (hm : 2 * t.mass ≤ lim) : (run cfg).p F_term_Free [t.enc] = some (encStrs (if t.right = true then t.free else [])) := by
  refine call_term_Free _ ?_
  rw [eq_term_Free]
  cases rt : t.right
  · simp [Tm.eta, sp_term_right t ft, rt, encStrs_nil]
  · obtain ⟨O', B', h1, h2, -⟩ := sp_term_free t ft rt [] [] _ [] KeysAre.nil (fun v => rfl) (by simpa using hm)
    have h3 : KeysAre O' fun s => s ∈ t.free := h2.congr fun s => by rw [Tm.mem_free]; simp
    obtain ⟨h4, h5⟩ := sortKeys_rises h3 t.free_rises
    have hlen : O'.length ≤ lim := by
      have := t.free_len
      have := t.size_mass
      omega
    have h1' : (run cfg).r F_term_free [(t.enc, .val), (.undef, .map 1), (.undef, .map 0)] [.map true [], .map true []] = some ([], sgT O' B') := h1
    simp [Tm.eta, sp_term_right t ft, rt, h1', sgT, sgMap, hlen, h4]

theorem sp_slices_IndexS (l : List ByteArray) (hl : l.length ≤ lim) (n : ByteArray) : ∃ k : Int, (run cfg).p F_slices_Index__string_string [encStrs l, .str n] = some (.int .i64 k) ∧ (0 ≤ k ↔ (l.any fun x => decide (x = n)) = true) := by
  have hb := big hl
  have loop : ∀ (m i : Nat), i + m = l.length → ∃ k : Int, P_slices_Index__string_string_2h (run cfg) (encStrs l) (.str n) (.int .i64 l.length) (.int .i64 i) = some (.int .i64 k) ∧ (0 ≤ k ↔ ((l.drop i).any fun x => decide (x = n)) = true) := by
    intro m
    induction m with
    | zero =>
      intro i hi
      refine ⟨-1, ?_, ?_⟩
      · have : ¬ i < l.length := by omega
        rw [eq_slices_Index__string_string_2h]
        simp [this]
      · rw [List.drop_of_length_le (by omega)]; simp
    | succ m ih =>
      intro i hi
      have h : i < l.length := by omega
      rw [eq_slices_Index__string_string_2h, List.drop_eq_getElem_cons h]
      by_cases e : n = l[i]
      · refine ⟨i, by simp [h, dIdx_strs h, e], ?_⟩
        simp [← e]
      · obtain ⟨k, h1, h2⟩ := ih (i + 1) (by omega)
        push_cast at h1
        refine ⟨k, by simp [h, dIdx_strs h, e, dAdd1 (show i < 9223372036854775807 by omega), h1], ?_⟩
        rw [h2, List.any_cons]
        have : decide (l[i] = n) = false := by simpa using fun h' => e h'.symm
        rw [this, Bool.false_or]
  obtain ⟨k, h1, h2⟩ := loop l.length 0 (by omega)
  refine ⟨k, call_slices_Index__string_string _ _ ?_, by simpa using h2⟩
  rw [eq_slices_Index__string_string]
  simpa using h1

theorem sp_slices_ContainsS (l : List ByteArray) (hl : l.length ≤ lim) (n : ByteArray) : (run cfg).p F_slices_Contains__string_string [encStrs l, .str n] = some (.bool (l.any fun x => decide (x = n))) := by
  refine call_slices_Contains__string_string _ _ ?_
  rw [eq_slices_Contains__string_string]
  obtain ⟨k, h1, h2⟩ := sp_slices_IndexS l hl n
  simp only [h1, ob_some', dBin_geq]
  congr 2
  rw [Bool.eq_iff_iff, ← h2]
  simp

/-- What is put: the name, no variables, the term. -/
def putBox (s : ByteArray) (v : Tm) : List (DV × Meta) :=
  [(.str s, .val), (.list 1 [], .val), (.int .i64 v.kind, .val), (.int .i64 v.lo, .val), (.int .i64 v.hi, .val), (.str v.name, .val), (.str v.arg, .val), (.int .i64 v.n, .val), (.str v.s, .val), (.int .i64 v.op, .val), (.int .i64 v.label, .val), (.bool v.neg, .val), (encInts v.vars, .val),
    (.int .i64 v.a.kind, .val), (.int .i64 v.a.n, .val), (.list 3 (v.a.kids.map Ty.enc), .val), (.int .i64 v.b.kind, .val), (.int .i64 v.b.n, .val), (.list 3 (v.b.kids.map Ty.enc), .val), (.list 3 (v.args.map Ty.enc), .val), (.list 7 (v.pats.map Pat.enc), .val), (.list 20 (v.kids.map Tm.enc), .val)]

theorem putBox_seg (s : ByteArray) (v : Tm) : ∃ e, segDat 2 20 (putBox s v) = some e ∧ DV.agg e = v.enc := ⟨_, rfl, by rw [Tm.enc_eq]⟩

theorem Tm.withKids_enc (t : Tm) (ks : List Tm) : DV.agg [.int .i64 t.kind, .int .i64 t.lo, .int .i64 t.hi, .str t.name, .str t.arg, .int .i64 t.n, .str t.s, .int .i64 t.op, .int .i64 t.label, .bool t.neg, encInts t.vars, .int .i64 t.a.kind, .int .i64 t.a.n, .list 3 (t.a.kids.map Ty.enc), .int .i64 t.b.kind, .int .i64 t.b.n, .list 3 (t.b.kids.map Ty.enc), .list 3 (t.args.map Ty.enc), .list 7 (t.pats.map Pat.enc), .list 20 (ks.map Tm.enc)] = (t.withKids ks).enc := by
  rw [Tm.enc_eq]; rfl

theorem sgArr_app (S J : List SObj) (z : Nat) (l : List DV) : sgArr (S ++ .arr z l :: J) S.length = some (z, l) := by
  unfold sgArr
  rw [List.getElem?_append_right (Nat.le_refl _), Nat.sub_self]
  rfl

theorem sgBox_app {S : List SObj} {c : List (DV × Meta)} (h : sgBox S 0 = some c) (J : List SObj) : sgBox (S ++ J) 0 = some c := by
  have hl := sgBox_lt h
  unfold sgBox at h ⊢
  rw [List.getElem?_append_left hl]
  exact h

theorem set_app (S J : List SObj) (x y : SObj) : (S ++ x :: J).set S.length y = S ++ y :: J := by
  rw [List.set_append_right _ _ (Nat.le_refl _), Nat.sub_self]
  rfl

noncomputable def inLoop (t : Tm) (m n : Nat) (j : Int) (sg : List SObj) : Option (List DV × List SObj) :=
  P_term_putting_in_19h (run cfg) 0 m n m n (.int .i64 n) (.int .i64 j) t.enc (.int .i64 0) (.int .i64 0) (.int .i64 0) (.str ⟨#[]⟩) (.str ⟨#[]⟩) (.int .i64 0) (.str ⟨#[]⟩) (.int .i64 0) (.int .i64 0) (.bool false) (.list 1 []) (.int .i64 0) (.int .i64 0) (.list 3 []) (.int .i64 0) (.int .i64 0) (.list 3 []) (.list 3 []) (.list 7 []) (.list 20 []) sg

theorem in_end (t : Tm) (S J : List SObj) (cur : List Tm) (hc : cur.length = t.kids.length) :
    inLoop t S.length t.kids.length t.kids.length (S ++ .arr 20 (cur.map Tm.enc) :: J) = some ([(t.withKids cur).enc, .bool true], S ++ .arr 1 [] :: J) := by
  unfold inLoop
  rw [eq_term_putting_in_19h]
  have e1 : dBin .lss (.int .i64 (t.kids.length : Int)) (.int .i64 (t.kids.length : Int)) = some (.bool false) := by simp
  have e2 : sealCell (S ++ .arr 20 (cur.map Tm.enc) :: J) (.undef, .arr S.length 20 0 t.kids.length) = some (.list 20 (cur.map Tm.enc)) := by
    simp only [sealCell, sgArr_app, ob_some', BEq.rfl, og_true', Nat.zero_add, List.length_map, hc, Nat.le_refl, if_true, List.drop_zero]
    rw [List.take_of_length_le (by simp [hc])]
  simp only [e1, ob_some', oif_bool, Bool.false_eq_true, if_false, sealCells, e2, seqO, Tm.proj0, Tm.proj1, Tm.proj2, Tm.proj3, Tm.proj4, Tm.proj5, Tm.proj6, Tm.proj7, Tm.proj8, Tm.proj9, Tm.proj10, Tm.proj11, Tm.proj12, Tm.proj13, Tm.proj14, Tm.proj15, Tm.proj16, Tm.proj17, Tm.proj18, set_app, Tm.withKids_enc]
  simp only [sealCell, ob_some', Tm.withKids_enc]

theorem sp_term_in (s : ByteArray) (v : Tm) (t : Tm) : t.fit → t.right = true → 2 * t.mass ≤ lim → ∀ S : List SObj, sgBox S 0 = some (putBox s v) →
    ∃ (J : List SObj) (u : Tm) (b : Bool), (run cfg).r F_term_putting_in [(.undef, .ptr 0 0), (t.enc, .val)] S = some ([u.enc, .bool b], S ++ J) ∧ t.put0 s v = (if b = true then some u else none) := by
  induction t using Tm.ind with
  | h t ih =>
    intro ft rt hm S hS
    have hk := big (Nat.le_of_lt ft.one.kids)
    have loop : ∀ (n j : Nat) (cur : List Tm) (J : List SObj), j + n = t.kids.length → cur.length = t.kids.length → (∀ i : Nat, j ≤ i → cur[i]? = t.kids[i]?) →
        ∃ (J' : List SObj) (u : Tm) (b : Bool), inLoop t S.length t.kids.length j (S ++ .arr 20 (cur.map Tm.enc) :: J) = some ([u.enc, .bool b], S ++ J') ∧
          (Tm.put0L t.binds j (t.kids.drop j) s v).map (fun ks => t.withKids (cur.take j ++ ks)) = (if b = true then some u else none) := by
      intro n
      induction n with
      | zero =>
        intro j cur J hj hc _
        have e : j = t.kids.length := by omega
        subst e
        refine ⟨_, _, _, in_end t S J cur hc, ?_⟩
        rw [List.drop_length, Tm.put0L_nil]
        simp [List.take_of_length_le (Nat.le_of_eq hc)]
      | succ n ihn =>
        intro j cur J hj hc hcur
        have h : j < t.kids.length := by omega
        have h' : j < cur.length := by omega
        have hcj : cur[j] = t.kids[j] := by
          have := hcur j (Nat.le_refl _)
          rw [List.getElem?_eq_getElem h, List.getElem?_eq_getElem h'] at this
          simpa using this
        have hmk := Tm.mass_kid (List.getElem_mem h)
        have hbl := t.binds_len j
        have hbi := sp_term_binds t ft.one j (fun h14 => by have := Tm.kids14 rt h14; omega)
        have hct := sp_slices_ContainsS (t.binds j) (by omega) s
        have ee : (DV.agg [proj 0 t.enc, proj 1 t.enc, proj 2 t.enc, proj 3 t.enc, proj 4 t.enc, proj 5 t.enc, proj 6 t.enc, proj 7 t.enc, proj 8 t.enc, proj 9 t.enc, proj 10 t.enc, proj 11 t.enc, proj 12 t.enc, proj 13 t.enc, proj 14 t.enc, proj 15 t.enc, proj 16 t.enc, proj 17 t.enc, proj 18 t.enc, proj 19 t.enc]) = t.enc := by simp [Tm.eta]
        have ek : ∀ k : Tm, (DV.agg [proj 0 k.enc, proj 1 k.enc, proj 2 k.enc, proj 3 k.enc, proj 4 k.enc, proj 5 k.enc, proj 6 k.enc, proj 7 k.enc, proj 8 k.enc, proj 9 k.enc, proj 10 k.enc, proj 11 k.enc, proj 12 k.enc, proj 13 k.enc, proj 14 k.enc, proj 15 k.enc, proj 16 k.enc, proj 17 k.enc, proj 18 k.enc, proj 19 k.enc]) = k.enc := fun k => by simp [Tm.eta]
        have a1 : arrIdx 0 t.kids.length (.int .i64 (j : Int)) = some j := by
          show (if (0 : Int) ≤ (j : Int) ∧ (j : Int) < (t.kids.length : Int) then some (0 + (j : Int).toNat) else none) = some j
          rw [if_pos ⟨by omega, by omega⟩]
          simp
        have g1 : (cur.map Tm.enc)[j]? = some t.kids[j].enc := by rw [List.getElem?_map, List.getElem?_eq_getElem h', hcj]; rfl
        have cd : cellDat (putBox s v) 0 = some (.str s) := rfl
        rw [List.drop_eq_getElem_cons h, Tm.put0L_cons]
        by_cases hb : ((t.binds j).any fun x => decide (x = s)) = true
        · obtain ⟨J', u, b, k1, k2⟩ := ihn (j + 1) cur J (by omega) hc (fun i hi => hcur i (by omega))
          refine ⟨J', u, b, ?_, ?_⟩
          · rw [← k1]
            unfold inLoop
            rw [eq_term_putting_in_19h]
            simp only [dBin_lss, Int.ofNat_lt, h, decide_true, ob_some', oif_bool, if_true, a1, sgArr_app, g1, BEq.rfl, og_true', ee, hbi, sgBox_app hS, cd, hct, hb]
            rw [dAdd1 (by omega)]
            rfl
          · rw [← k2, if_pos hb]
            simp only [Option.bind_some, Option.map_map]
            congr 1
            funext ks
            simp only [Function.comp_apply]
            rw [List.take_succ_eq_append_getElem h', hcj, List.append_assoc]
            rfl
        · have hb' : ((t.binds j).any fun x => decide (x = s)) = false := Bool.eq_false_iff.2 hb
          obtain ⟨J1, u1, b1, f1, f2⟩ := ih _ (List.getElem_mem h) (ft.kid (List.getElem_mem h)) (Tm.right_kid rt (List.getElem_mem h)) (by omega) (S ++ .arr 20 (cur.map Tm.enc) :: J) (sgBox_app hS _)
          rw [if_neg hb, f2]
          cases b1
          · refine ⟨.arr 20 (cur.map Tm.enc) :: J ++ J1, t, false, ?_, by simp⟩
            unfold inLoop
            rw [eq_term_putting_in_19h]
            simp only [dBin_lss, Int.ofNat_lt, h, decide_true, ob_some', oif_bool, if_true, a1, sgArr_app, g1, BEq.rfl, og_true', ee, ek, hbi, sgBox_app hS, cd, hct, hb', Bool.false_eq_true, if_false, f1, dExt, List.getElem?_cons_succ, List.getElem?_cons_zero, isAggN_Tm, dUn_not, Bool.not_false]
            rw [List.append_assoc]
          · obtain ⟨J', u, b, k1, k2⟩ := ihn (j + 1) (cur.set j u1) (J ++ J1) (by omega) (by simpa using hc) (fun i hi => by rw [List.getElem?_set_ne (by omega)]; exact hcur i (by omega))
            refine ⟨J', u, b, ?_, ?_⟩
            · rw [← k1]
              unfold inLoop
              rw [eq_term_putting_in_19h]
              simp only [dBin_lss, Int.ofNat_lt, h, decide_true, ob_some', oif_bool, if_true, a1, sgArr_app, g1, BEq.rfl, og_true', ee, ek, hbi, sgBox_app hS, cd, hct, hb', Bool.false_eq_true, if_false, f1, dExt, List.getElem?_cons_succ, List.getElem?_cons_zero, isAggN_Tm, dUn_not, Bool.not_true, List.append_assoc, List.cons_append, set_app]
              rw [dAdd1 (by omega)]
              simp only [ob_some', List.map_set]
              try rfl
            · rw [← k2]
              simp only [if_true, Option.bind_some, Option.map_map]
              congr 1
              funext ks
              simp only [Function.comp_apply]
              rw [List.take_succ_eq_append_getElem (by simpa using h'), List.append_assoc, List.take_set_of_le (Nat.le_refl _)]
              simp
    have ee : (DV.agg [proj 0 t.enc, proj 1 t.enc, proj 2 t.enc, proj 3 t.enc, proj 4 t.enc, proj 5 t.enc, proj 6 t.enc, proj 7 t.enc, proj 8 t.enc, proj 9 t.enc, proj 10 t.enc, proj 11 t.enc, proj 12 t.enc, proj 13 t.enc, proj 14 t.enc, proj 15 t.enc, proj 16 t.enc, proj 17 t.enc, proj 18 t.enc, proj 19 t.enc]) = t.enc := by simp [Tm.eta]
    by_cases h1 : t.kind = 1
    · by_cases h2 : t.name = s
      · by_cases h3 : t.args.length = 0
        · refine ⟨[], v, true, call_term_putting_in _ _ _ ?_, by rw [Tm.put0_eq, if_pos h1, if_pos h2, if_pos h3]; rfl⟩
          obtain ⟨e, e1, e2⟩ := putBox_seg s v
          have cd0 : cellDat (putBox s v) 0 = some (.str s) := rfl
          have cd1 : cellDat (putBox s v) 1 = some (.list 1 []) := rfl
          rw [eq_term_putting_in]
          simp only [ee]
          simp [h1, h2, h3, hS, cd0, cd1, e1, e2, Tm.eta]
        · refine ⟨[], t, false, call_term_putting_in _ _ _ ?_, by rw [Tm.put0_eq, if_pos h1, if_pos h2, if_neg h3]; rfl⟩
          have cd0 : cellDat (putBox s v) 0 = some (.str s) := rfl
          have cd1 : cellDat (putBox s v) 1 = some (.list 1 []) := rfl
          have h3' : ¬ (t.args.length : Int) = 0 := by omega
          rw [eq_term_putting_in]
          simp only [ee]
          simp [h1, h2, h3, h3', hS, cd0, cd1, Tm.eta]
      · refine ⟨[], t, true, call_term_putting_in _ _ _ ?_, by rw [Tm.put0_eq, if_pos h1, if_neg h2]; rfl⟩
        have cd0 : cellDat (putBox s v) 0 = some (.str s) := rfl
        rw [eq_term_putting_in]
        simp only [ee]
        simp [h1, h2, hS, cd0, Tm.eta]
    · by_cases h2 : t.kids.length = 0
      · have hnil : t.kids = [] := List.eq_nil_of_length_eq_zero h2
        refine ⟨[], t, true, call_term_putting_in _ _ _ ?_, ?_⟩
        · rw [eq_term_putting_in]
          simp [h1, h2, Tm.eta]
        · rw [Tm.put0_eq, if_neg h1, hnil, Tm.put0L_nil]
          simp only [Option.map_some, if_true]
          rw [← hnil, Tm.withKids_self]
      · obtain ⟨J, u, b, k1, k2⟩ := loop t.kids.length 0 t.kids [] (by omega) rfl (fun i _ => rfl)
        refine ⟨J, u, b, call_term_putting_in _ _ _ ?_, ?_⟩
        · rw [eq_term_putting_in]
          have h2' : ¬ (t.kids.length : Int) = 0 := by omega
          have hle : t.kids.length ≤ lim := Nat.le_of_lt ft.one.kids
          simp only [isAggN_Tm, og_true', Tm.proj0, dBin_eql, ob_some', h1, decide_false, oif_bool, Bool.false_eq_true, if_false, Tm.proj19, dLen_list, List.length_map, h2', dList_list, BEq.rfl, Bool.true_and, hle, decide_true]
          exact k1
        · rw [Tm.put0_eq, if_neg h1, ← k2]
          simp

/-- No term. -/
def zeroTm : Tm := .mk 0 0 0 nil8 nil8 0 nil8 0 0 false [] (.mk 0 0 []) (.mk 0 0 []) [] [] []

theorem zeroTm_agg : DV.agg [.int .i64 0, .int .i64 0, .int .i64 0, .str ⟨#[]⟩, .str ⟨#[]⟩, .int .i64 0, .str ⟨#[]⟩, .int .i64 0, .int .i64 0, .bool false, .list 1 [], .int .i64 0, .int .i64 0, .list 3 [], .int .i64 0, .int .i64 0, .list 3 [], .list 3 [], .list 7 [], .list 20 []] = zeroTm.enc := by
  rw [Tm.enc_eq]; rfl

/-- What substitution answers. -/
def putOut (o : Option Tm) : DV :=
  match o with
  | some u => .tup [u.enc, .int .i64 0]
  | none => .tup [zeroTm.enc, .int .i64 8]

theorem sp_term_For0 (t v : Tm) (s : ByteArray) (ft : t.fit) (rt : t.right = true) (hm : 2 * t.mass ≤ lim) : (run cfg).p F_term_For [t.enc, .str s, .list 1 [], v.enc] = some (putOut (t.put0 s v)) := by
  have ee : ∀ k : Tm, (DV.agg [proj 0 k.enc, proj 1 k.enc, proj 2 k.enc, proj 3 k.enc, proj 4 k.enc, proj 5 k.enc, proj 6 k.enc, proj 7 k.enc, proj 8 k.enc, proj 9 k.enc, proj 10 k.enc, proj 11 k.enc, proj 12 k.enc, proj 13 k.enc, proj 14 k.enc, proj 15 k.enc, proj 16 k.enc, proj 17 k.enc, proj 18 k.enc, proj 19 k.enc]) = k.enc := fun k => by simp [Tm.eta]
  obtain ⟨J, u, b, h1, h2⟩ := sp_term_in s v t ft rt hm [.box (putBox s v)] rfl
  refine call_term_For _ _ _ _ ?_
  rw [eq_term_For]
  have h1' : (run cfg).r F_term_putting_in [(.undef, .ptr 0 0), (t.enc, .val)] [SObj.box [(.str s, .val), (.list 1 [], .val), (proj 0 v.enc, .val), (proj 1 v.enc, .val), (proj 2 v.enc, .val), (proj 3 v.enc, .val), (proj 4 v.enc, .val), (proj 5 v.enc, .val), (proj 6 v.enc, .val), (proj 7 v.enc, .val), (proj 8 v.enc, .val), (proj 9 v.enc, .val), (proj 10 v.enc, .val), (proj 11 v.enc, .val), (proj 12 v.enc, .val), (proj 13 v.enc, .val), (proj 14 v.enc, .val), (proj 15 v.enc, .val), (proj 16 v.enc, .val), (proj 17 v.enc, .val), (proj 18 v.enc, .val), (proj 19 v.enc, .val)]] = some ([u.enc, .bool b], [.box (putBox s v)] ++ J) := by
    rw [← h1]
    simp [putBox]
  simp only [ee, isAggN_Tm, og_true', isCell_str, isCell_list, h1', ob_some', dExt, List.getElem?_cons_succ, List.getElem?_cons_zero, dUn_not, oif_bool, h2, zeroTm_agg]
  cases b <;> simp [putOut]

theorem sp_term_Put0 (t v : Tm) (s : ByteArray) (ft : t.fit) (fv : v.fit) (hm : 2 * t.mass ≤ lim) (hv : 2 * v.mass ≤ lim) (hs : s.size ≤ lim) :
    (run cfg).p F_term_Put [t.enc, .str s, .list 1 [], v.enc] = some (if t.right = true ∧ v.right = true ∧ nameB s = true ∧ v.free = [] then putOut (t.put0 s v) else .tup [zeroTm.enc, .int .i64 1]) := by
  have ee : ∀ k : Tm, (DV.agg [proj 0 k.enc, proj 1 k.enc, proj 2 k.enc, proj 3 k.enc, proj 4 k.enc, proj 5 k.enc, proj 6 k.enc, proj 7 k.enc, proj 8 k.enc, proj 9 k.enc, proj 10 k.enc, proj 11 k.enc, proj 12 k.enc, proj 13 k.enc, proj 14 k.enc, proj 15 k.enc, proj 16 k.enc, proj 17 k.enc, proj 18 k.enc, proj 19 k.enc]) = k.enc := fun k => by simp [Tm.eta]
  refine call_term_Put _ _ _ _ ?_
  rw [eq_term_Put]
  simp only [ee, isAggN_Tm, og_true', sp_term_right t ft, sp_term_right v fv, ob_some', dUn_not, ogd_bool, zeroTm_agg, sp_word_Name s hs]
  cases h1 : t.right
  · simp
  cases h2 : v.right
  · simp
  cases h3 : nameB s
  · simp
  have hF := sp_term_Free v fv hv
  rw [if_pos h2] at hF
  by_cases h4 : v.free = []
  · have hz := sp_term_For0 t v s ft h1 hm
    simp [hF, h4]
    rw [eq_term_Put_4h]
    simp [ee, Tm.eta, hz]
    cases t.put0 s v <;> simp [putOut, dExt, Tm.eta]
  · have : 0 < v.free.length := List.length_pos_iff.2 h4
    simp [hF, h4, this]

def sx : ByteArray := ⟨#[120]⟩

def sy : ByteArray := ⟨#[121]⟩

def leafTm (k : Int) (s : ByteArray) : Tm := .mk k 0 0 s nil8 0 nil8 0 0 false [] (.mk 0 0 []) (.mk 0 0 []) [] [] []

def wkPair (y : Tm) : Tm := .mk 6 0 0 nil8 nil8 0 nil8 0 0 false [] (.mk 0 0 []) (.mk 0 0 []) [] [] [leafTm 1 sx, y]

def wkF (y : Tm) : Tm := .mk 9 0 0 sx nil8 0 nil8 0 0 false [] (.mk 1 0 []) (.mk 0 0 []) [] [] [wkPair y]

theorem wk_nameY : nameB sy = true := by decide +kernel

theorem wk_nameX : nameB sx = true := by decide +kernel

theorem wk_none : (Ty.mk 0 0 []).none = true := by simp [Ty.none]

theorem wk_int : (Ty.mk 1 0 []).right = true := right_leaf (by omega)

theorem wk_rightN {s : ByteArray} (h : nameB s = true) : (leafTm 1 s).right = true := by
  rw [Tm.right_eq]
  simp [leafTm, Tm.one, Tm.one1, Tm.one2, Tm.one3, Tm.one4, Tm.one5, Tm.lists, kOk, kKids, kName, kArg, kN, kS, kOp, kAt, kVars, kArgs, kPats, kA, kB, kLabel, namedB, typedB, nil8_size, wk_none, h]

theorem wk_rightU : (leafTm 5 nil8).right = true := by
  rw [Tm.right_eq]
  simp [leafTm, Tm.one, Tm.one1, Tm.one2, Tm.one3, Tm.one4, Tm.one5, Tm.lists, kOk, kKids, kName, kArg, kN, kS, kOp, kAt, kVars, kArgs, kPats, kA, kB, kLabel, namedB, typedB, nil8_size, wk_none]

theorem wk_rightF {y : Tm} (h : y.right = true) : (wkF y).right = true := by
  rw [Tm.right_eq]
  have h1 : (wkPair y).right = true := by
    rw [Tm.right_eq]
    simp [wkPair, Tm.one, Tm.one1, Tm.one2, Tm.one3, Tm.one4, Tm.one5, Tm.lists, kOk, kKids, kName, kArg, kN, kS, kOp, kAt, kVars, kArgs, kPats, kA, kB, kLabel, namedB, typedB, nil8_size, wk_none, h, wk_rightN wk_nameX]
  simp [wkF, Tm.one, Tm.one1, Tm.one2, Tm.one3, Tm.one4, Tm.one5, Tm.lists, kOk, kKids, kName, kArg, kN, kS, kOp, kAt, kVars, kArgs, kPats, kA, kB, kLabel, namedB, typedB, nil8_size, wk_none, wk_int, wk_nameX, h1]

theorem wk_right : (wkF (leafTm 1 sy)).right = true := wk_rightF (wk_rightN wk_nameY)

theorem wk_rightG : (wkF (leafTm 5 nil8)).right = true := wk_rightF wk_rightU

theorem wk_free : (wkF (leafTm 1 sy)).free = [sy] := by kernel_rfl

theorem wk_freeG : (wkF (leafTm 5 nil8)).free = [] := by kernel_rfl

theorem wk_freeU : (leafTm 5 nil8).free = [] := by kernel_rfl

theorem wk_putY : (wkF (leafTm 1 sy)).put0 sy (leafTm 5 nil8) = some (wkF (leafTm 5 nil8)) := by kernel_rfl

theorem wk_putX : (wkF (leafTm 1 sy)).put0 sx (leafTm 5 nil8) = some (wkF (leafTm 1 sy)) := by kernel_rfl

theorem wk_rightZ : zeroTm.right = false := by
  rw [Tm.right_eq]
  simp [zeroTm, Tm.one, kOk]

theorem wk_mass (y : Tm) (h : y.mass ≤ 10) : (wkF y).mass ≤ 100 := by
  simp [wkF, wkPair, leafTm, Tm.mass_eq, Ty.size_eq, nil8_size] at h ⊢
  have : sx.size = 1 := rfl
  omega

theorem wk_massY : (leafTm 1 sy).mass ≤ 10 := by
  have : sy.size = 1 := rfl
  simp [leafTm, Tm.mass_eq, Ty.size_eq, nil8_size, this]

theorem wk_massU : (leafTm 5 nil8).mass ≤ 10 := by simp [leafTm, Tm.mass_eq, Ty.size_eq, nil8_size]

theorem wk_massZ : zeroTm.mass ≤ 10 := by simp [zeroTm, Tm.mass_eq, Ty.size_eq, nil8_size]

theorem wk_size : (wkF (leafTm 1 sy)).size = 4 := by simp [wkF, wkPair, leafTm, Tm.size_eq]

theorem wk_ne : wkF (leafTm 5 nil8) ≠ wkF (leafTm 1 sy) := by
  intro h
  have := congrArg (fun t => (t.kids.map fun k => k.kids.map Tm.kind)) h
  simp [wkF, wkPair, leafTm] at this

theorem w_l17_wakes : (run cfg).p F_l17_wakes [] = some (.bool true) := by
  have m1 := wk_mass _ wk_massY
  have m2 := wk_mass _ wk_massU
  have m3 := wk_massU
  have m4 := wk_massZ
  have f1 : (wkF (leafTm 1 sy)).fit := Tm.fit_mass (by omega)
  have f2 : (wkF (leafTm 5 nil8)).fit := Tm.fit_mass (by omega)
  have f3 : (leafTm 5 nil8).fit := Tm.fit_mass (by omega)
  have f4 : zeroTm.fit := Tm.fit_mass (by omega)
  have p1 := sp_term_Put0 (wkF (leafTm 1 sy)) (leafTm 5 nil8) sy f1 f3 (by unfold lim; omega) (by unfold lim; omega) (by decide)
  rw [if_pos ⟨wk_right, wk_rightU, wk_nameY, wk_freeU⟩, wk_putY] at p1
  have p2 := sp_term_Put0 (wkF (leafTm 1 sy)) (leafTm 5 nil8) sx f1 f3 (by unfold lim; omega) (by unfold lim; omega) (by decide)
  rw [if_pos ⟨wk_right, wk_rightU, wk_nameX, wk_freeU⟩, wk_putX] at p2
  have c1 := sp_term_Check _ f1
  have c2 := sp_term_Check _ f4
  rw [if_pos wk_right] at c1
  rw [wk_rightZ] at c2
  have z1 := sp_term_Size (wkF (leafTm 1 sy)) (by rw [wk_size]; unfold lim; omega)
  rw [wk_size] at z1
  have e1 := sp_term_Free _ f1 (by unfold lim; omega)
  rw [if_pos wk_right, wk_free] at e1
  have e2 := sp_term_Free _ f2 (by unfold lim; omega)
  rw [if_pos wk_rightG, wk_freeG] at e2
  have s1 := sp_term_Same _ f1 (wkF (leafTm 1 sy))
  have s2 := sp_term_Same _ f2 (wkF (leafTm 1 sy))
  rw [decide_eq_false wk_ne] at s2
  have t1 := sp_keep_Texts [sy] [sy] (by unfold lim; decide)
  have ee : ∀ k : Tm, (DV.agg [proj 0 k.enc, proj 1 k.enc, proj 2 k.enc, proj 3 k.enc, proj 4 k.enc, proj 5 k.enc, proj 6 k.enc, proj 7 k.enc, proj 8 k.enc, proj 9 k.enc, proj 10 k.enc, proj 11 k.enc, proj 12 k.enc, proj 13 k.enc, proj 14 k.enc, proj 15 k.enc, proj 16 k.enc, proj 17 k.enc, proj 18 k.enc, proj 19 k.enc]) = k.enc := fun k => by simp [Tm.eta]
  have n1 : ∀ s : ByteArray, (run cfg).p F_l17_name [.str s, .list 3 []] = some (leafTm 1 s).enc := fun s => by
    refine call_l17_name _ _ ?_
    rw [eq_l17_name, Tm.enc_eq]
    rfl
  have hx : (DV.str ⟨#[120]⟩) = .str sx := rfl
  have hy : (DV.str ⟨#[121]⟩) = .str sy := rfl
  have hE : (DV.agg [.int .i64 9, .int .i64 0, .int .i64 0, .str sx, .str ⟨#[]⟩, .int .i64 0, .str ⟨#[]⟩, .int .i64 0, .int .i64 0, .bool false, .list 1 [], .int .i64 1, .int .i64 0, .list 3 [], .int .i64 0, .int .i64 0, .list 3 [], .list 3 [], .list 7 [], .list 20 [.agg [.int .i64 6, .int .i64 0, .int .i64 0, .str ⟨#[]⟩, .str ⟨#[]⟩, .int .i64 0, .str ⟨#[]⟩, .int .i64 0, .int .i64 0, .bool false, .list 1 [], .int .i64 0, .int .i64 0, .list 3 [], .int .i64 0, .int .i64 0, .list 3 [], .list 3 [], .list 7 [], .list 20 [(leafTm 1 sx).enc, (leafTm 1 sy).enc]]]]) = (wkF (leafTm 1 sy)).enc := by
    rw [Tm.enc_eq (wkF _)]
    simp only [wkF, Tm.kids_mk, List.map_cons, List.map_nil, Tm.enc_eq (wkPair _)]
    rfl
  have hU : (DV.agg [.int .i64 5, .int .i64 0, .int .i64 0, .str ⟨#[]⟩, .str ⟨#[]⟩, .int .i64 0, .str ⟨#[]⟩, .int .i64 0, .int .i64 0, .bool false, .list 1 [], .int .i64 0, .int .i64 0, .list 3 [], .int .i64 0, .int .i64 0, .list 3 [], .list 3 [], .list 7 [], .list 20 []]) = (leafTm 5 nil8).enc := by
    rw [Tm.enc_eq]; rfl
  refine call_l17_wakes ?_
  rw [eq_l17_wakes]
  simp only [sp_r03_Leaf, ob_some', n1, hx, hy, isAggN_Tm, isAggN_Ty, og_true', Ty.proj0, Ty.proj1, Ty.proj2, Ty.kind_mk, Ty.n_mk, Ty.kids_mk, List.map_nil, hE, hU]
  simp only [p1, p2, putOut, ob_some', dExt, List.getElem?_cons_succ, List.getElem?_cons_zero, isAggN_Tm, og_true']
  rw [eq_l17_wakes_4]
  have hT : (DV.list 1 [.str sy]) = encStrs [sy] := rfl
  have d1 : dIdx 20 (DV.list 20 []) (.int .i64 0) = none := rfl
  have k1 : (wkF (leafTm 5 nil8)).kids.length = 1 := rfl
  simp only [ee]
  simp only [hE, zeroTm_agg, c1, c2, z1, e1, e2, s1, s2, hx, hy, hT, t1, ob_some', dBin_eql, ogd_bool, oif_bool, decide_true, if_true, Bool.false_eq_true, if_false, dLen_strs, List.length_nil, Tm.proj19, dLen_list, dUn_not, Bool.not_false, List.length_map, k1]
  simp

theorem sp_l17_weighPat2 (p : Pat) : p.thin = true → ∀ n : Int, 0 ≤ n → n ≤ 500 → ∃ m : Int, (run cfg).p F_l17_weighPat [p.enc, .int .i64 n] = some (.int .i64 m) ∧ 0 ≤ m ∧ m ≤ 501 ∧ n ≤ m := by
  induction p using Pat.ind with
  | h p ih =>
    intro ht n h0 h1
    have hb := p.thin_len ht
    have loop : ∀ (k j : Nat) (n : Int), j + k = p.kids.length → 0 ≤ n → n ≤ 501 → ∃ m : Int, P_l17_weighPat_5h (run cfg) (.int .i64 n) (.int .i64 j) p.enc = some (.int .i64 m) ∧ 0 ≤ m ∧ m ≤ 501 ∧ n ≤ m := by
      intro k
      induction k with
      | zero =>
        intro j n hj h0 h1
        refine ⟨n, ?_, h0, h1, Int.le_refl _⟩
        have : ¬ j < p.kids.length := by omega
        rw [eq_l17_weighPat_5h]
        simp [this]
      | succ k ihk =>
        intro j n hj h0 h1
        have hj' : j < p.kids.length := by omega
        rw [eq_l17_weighPat_5h]
        by_cases hn : n ≤ 500
        · obtain ⟨m, a1, a2, a3, a4⟩ := ih _ (List.getElem_mem hj') (Pat.thin_kid ht (List.getElem_mem hj')) n h0 hn
          obtain ⟨m', b1, b2, b3, b4⟩ := ihk (j + 1) m (by omega) a2 a3
          push_cast at b1
          exact ⟨m', by simp [hj', hn, dIdx_map hj', Pat.eta, a1, dAdd1 (show j < 9223372036854775807 by omega), b1], b2, b3, by omega⟩
        · exact ⟨n, by simp [hj', hn], h0, h1, Int.le_refl _⟩
    by_cases c1 : (300 : Int) < (p.s.size : Int)
    · refine ⟨501, call_l17_weighPat _ _ ?_, by omega, by omega, by omega⟩
      rw [eq_l17_weighPat]
      simp [c1]
    by_cases c2 : (300 : Int) < (p.name.size : Int)
    · refine ⟨501, call_l17_weighPat _ _ ?_, by omega, by omega, by omega⟩
      rw [eq_l17_weighPat]
      simp [c1, c2]
    obtain ⟨m, a1, a2, a3, a4⟩ := loop p.kids.length 0 (n + 1) (by omega) (by omega) (by omega)
    refine ⟨m, call_l17_weighPat _ _ ?_, a2, a3, by omega⟩
    rw [eq_l17_weighPat]
    have hadd : dBin .add (.int .i64 n) (.int .i64 1) = some (.int .i64 (n + 1)) := dAdd (by omega) (by omega)
    simp [c1, c2, hadd]
    exact a1

theorem sp_l17_weigh2 (t : Tm) : t.fit → t.sized → ∀ n : Int, 0 ≤ n → n ≤ 500 → ∃ m : Int, (run cfg).p F_l17_weigh [t.enc, .int .i64 n] = some (.int .i64 m) ∧ 0 ≤ m ∧ m ≤ 5000000000 ∧ (m ≤ 500 → n + t.size ≤ m) := by
  induction t using Tm.ind with
  | h t ih =>
    intro ht hz n h0 h1
    have hk := big (Nat.le_of_lt ht.one.kids)
    have hp := big (Nat.le_of_lt ht.one.pats)
    have ha := big (Nat.le_of_lt ht.one.args)
    have hv := big (Nat.le_of_lt ht.one.vars)
    have l3 : ∀ (k j : Nat) (n : Int), j + k = t.kids.length → 0 ≤ n → n ≤ 5000000000 → ∃ m : Int, P_l17_weigh_15h (run cfg) (.int .i64 n) (.int .i64 j) t.enc = some (.int .i64 m) ∧ 0 ≤ m ∧ m ≤ 5000000000 ∧ (m ≤ 500 → n + (((t.kids.drop j).map Tm.size).sum : Nat) ≤ m) := by
      intro k
      induction k with
      | zero =>
        intro j n hj h0 h1
        refine ⟨n, ?_, h0, h1, fun _ => by rw [List.drop_of_length_le (by omega)]; simp⟩
        have : ¬ j < t.kids.length := by omega
        rw [eq_l17_weigh_15h]
        simp [this]
      | succ k ihk =>
        intro j n hj h0 h1
        have hj' : j < t.kids.length := by omega
        rw [eq_l17_weigh_15h]
        by_cases hn : n ≤ 500
        · obtain ⟨m, a1, a2, a3, a4⟩ := ih _ (List.getElem_mem hj') (ht.kid (List.getElem_mem hj')) (hz.kid (List.getElem_mem hj')) n h0 hn
          obtain ⟨m', b1, b2, b3, b4⟩ := ihk (j + 1) m (by omega) a2 a3
          push_cast at b1
          exact ⟨m', by simp [hj', hn, dIdx_map hj', Tm.eta, a1, dAdd1 (show j < 9223372036854775807 by omega), b1], b2, b3, fun h => by
            have g1 := b4 h
            rw [List.drop_eq_getElem_cons hj', List.map_cons, List.sum_cons]
            have g2 := a4 (by omega)
            push_cast
            omega⟩
        · exact ⟨n, by simp [hj', hn], h0, h1, fun h => absurd h (by omega)⟩
    have l2 : ∀ (k j : Nat) (n : Int), j + k = t.pats.length → 0 ≤ n → n ≤ 5000000000 → ∃ m : Int, P_l17_weigh_11h (run cfg) (.int .i64 n) (.int .i64 j) t.enc = some (.int .i64 m) ∧ 0 ≤ m ∧ m ≤ 5000000000 ∧ (m ≤ 500 → n + ((t.kids.map Tm.size).sum : Nat) ≤ m) := by
      intro k
      induction k with
      | zero =>
        intro j n hj h0 h1
        obtain ⟨m, a1, a2, a3, a4⟩ := l3 t.kids.length 0 n (by omega) h0 h1
        refine ⟨m, ?_, a2, a3, by simpa using a4⟩
        have : ¬ j < t.pats.length := by omega
        rw [eq_l17_weigh_11h]
        simp [this]
        exact a1
      | succ k ihk =>
        intro j n hj h0 h1
        have hj' : j < t.pats.length := by omega
        rw [eq_l17_weigh_11h]
        by_cases hn : n ≤ 500
        · obtain ⟨m, a1, a2, a3, a4⟩ := sp_l17_weighPat2 _ (Pat.fit_thin (ht.one.pat _ (List.getElem_mem hj'))) n h0 hn
          obtain ⟨m', b1, b2, b3, b4⟩ := ihk (j + 1) m (by omega) a2 (by omega)
          push_cast at b1
          exact ⟨m', by simp [hj', hn, dIdx_map hj', Pat.eta, a1, dAdd1 (show j < 9223372036854775807 by omega), b1], b2, b3, fun h => by have := b4 h; omega⟩
        · obtain ⟨m, a1, a2, a3, a4⟩ := l3 t.kids.length 0 n (by omega) h0 h1
          exact ⟨m, by simp [hj', hn]; exact a1, a2, a3, by simpa using a4⟩
    have l1 : ∀ (k j : Nat) (n : Int), j + k = t.args.length → 0 ≤ n → n ≤ 5000000000 → ∃ m : Int, P_l17_weigh_5h (run cfg) (.int .i64 n) (.int .i64 j) t.enc = some (.int .i64 m) ∧ 0 ≤ m ∧ m ≤ 5000000000 ∧ (m ≤ 500 → n + ((t.kids.map Tm.size).sum : Nat) ≤ m) := by
      intro k
      induction k with
      | zero =>
        intro j n hj h0 h1
        obtain ⟨m, a1, a2, a3, a4⟩ := l2 t.pats.length 0 n (by omega) h0 h1
        refine ⟨m, ?_, a2, a3, by simpa using a4⟩
        have : ¬ j < t.args.length := by omega
        rw [eq_l17_weigh_5h]
        simp [this]
        exact a1
      | succ k ihk =>
        intro j n hj h0 h1
        have hj' : j < t.args.length := by omega
        rw [eq_l17_weigh_5h]
        by_cases hn : n ≤ 500
        · obtain ⟨b, hb⟩ := sp_l17_light _ (hz.args _ (List.getElem_mem hj'))
          have hadd : dBin .add (.int .i64 n) (.int .i64 1) = some (.int .i64 (n + 1)) := dAdd (by omega) (by omega)
          cases b
          · exact ⟨501, by simp [hj', hn, hadd, dIdx_map hj', Ty.eta, hb], by omega, by omega, fun h => absurd h (by omega)⟩
          · obtain ⟨m', b1, b2, b3, b4⟩ := ihk (j + 1) (n + 1) (by omega) (by omega) (by omega)
            push_cast at b1
            exact ⟨m', by simp [hj', hn, hadd, dIdx_map hj', Ty.eta, hb, dAdd1 (show j < 9223372036854775807 by omega), b1], b2, b3, fun h => by have := b4 h; omega⟩
        · obtain ⟨m, a1, a2, a3, a4⟩ := l2 t.pats.length 0 n (by omega) h0 h1
          exact ⟨m, by simp [hj', hn]; exact a1, a2, a3, by simpa using a4⟩
    have hadd : dBin .add (.int .i64 n) (.int .i64 1) = some (.int .i64 (n + 1)) := dAdd (by omega) (by omega)
    have hadd2 : dBin .add (.int .i64 (n + 1)) (.int .i64 (t.vars.length : Int)) = some (.int .i64 (n + 1 + t.vars.length)) := dAdd (by omega) (by omega)
    by_cases c1 : (300 : Int) < (t.s.size : Int)
    · refine ⟨501, call_l17_weigh _ _ ?_, by omega, by omega, fun h => absurd h (by omega)⟩
      rw [eq_l17_weigh]
      simp [c1, hadd, hadd2]
    by_cases c2 : (300 : Int) < (t.name.size : Int)
    · refine ⟨501, call_l17_weigh _ _ ?_, by omega, by omega, fun h => absurd h (by omega)⟩
      rw [eq_l17_weigh]
      simp [c1, c2, hadd, hadd2]
    by_cases c3 : (300 : Int) < (t.arg.size : Int)
    · refine ⟨501, call_l17_weigh _ _ ?_, by omega, by omega, fun h => absurd h (by omega)⟩
      rw [eq_l17_weigh]
      simp [c1, c2, c3, hadd, hadd2]
    obtain ⟨b1, hb1⟩ := sp_l17_light _ hz.a
    obtain ⟨b2, hb2⟩ := sp_l17_light _ hz.b
    cases b1
    · refine ⟨501, call_l17_weigh _ _ ?_, by omega, by omega, fun h => absurd h (by omega)⟩
      rw [eq_l17_weigh]
      simp [c1, c2, c3, hadd, hadd2, Ty.eta, hb1]
    cases b2
    · refine ⟨501, call_l17_weigh _ _ ?_, by omega, by omega, fun h => absurd h (by omega)⟩
      rw [eq_l17_weigh]
      simp [c1, c2, c3, hadd, hadd2, Ty.eta, hb1, hb2]
    obtain ⟨m, a1, a2, a3, a4⟩ := l1 t.args.length 0 (n + 1 + t.vars.length) (by omega) (by omega) (by omega)
    refine ⟨m, call_l17_weigh _ _ ?_, a2, a3, fun h => by
      have := a4 h
      have := t.size_eq
      push_cast at *
      omega⟩
    rw [eq_l17_weigh]
    simp [c1, c2, c3, hadd, hadd2, Ty.eta, hb1, hb2]
    exact a1

/-- What is heavy stays so. -/
theorem sp_l17_weigh_more2 (t : Tm) (ht : t.fit) (hz : t.sized) (n : Int) (h0 : 500 < n) (h1 : n ≤ 1099511627776) : ∃ m : Int, (run cfg).p F_l17_weigh [t.enc, .int .i64 n] = some (.int .i64 m) ∧ 500 < m ∧ m ≤ n + 4294967298 := by
  have hv := big (Nat.le_of_lt ht.one.vars)
  have hn : ∀ m : Int, n ≤ m → ¬ m ≤ 500 := fun m h => by omega
  have l3 : ∀ m : Int, n ≤ m → P_l17_weigh_15h (run cfg) (.int .i64 m) (.int .i64 0) t.enc = some (.int .i64 m) := by
    intro m hm
    have := hn m hm
    rw [eq_l17_weigh_15h]
    simp [this]
  have l2 : ∀ m : Int, n ≤ m → P_l17_weigh_11h (run cfg) (.int .i64 m) (.int .i64 0) t.enc = some (.int .i64 m) := by
    intro m hm
    have := hn m hm
    rw [eq_l17_weigh_11h]
    simp [this, l3 m hm]
  have l1 : ∀ m : Int, n ≤ m → P_l17_weigh_5h (run cfg) (.int .i64 m) (.int .i64 0) t.enc = some (.int .i64 m) := by
    intro m hm
    have := hn m hm
    rw [eq_l17_weigh_5h]
    simp [this, l2 m hm]
  have hadd : dBin .add (.int .i64 n) (.int .i64 1) = some (.int .i64 (n + 1)) := dAdd (by omega) (by omega)
  have hadd2 : dBin .add (.int .i64 (n + 1)) (.int .i64 (t.vars.length : Int)) = some (.int .i64 (n + 1 + t.vars.length)) := dAdd (by omega) (by omega)
  by_cases c1 : (300 : Int) < (t.s.size : Int)
  · refine ⟨501, call_l17_weigh _ _ ?_, by omega, by omega⟩
    rw [eq_l17_weigh]
    simp [c1, hadd, hadd2]
  by_cases c2 : (300 : Int) < (t.name.size : Int)
  · refine ⟨501, call_l17_weigh _ _ ?_, by omega, by omega⟩
    rw [eq_l17_weigh]
    simp [c1, c2, hadd, hadd2]
  by_cases c3 : (300 : Int) < (t.arg.size : Int)
  · refine ⟨501, call_l17_weigh _ _ ?_, by omega, by omega⟩
    rw [eq_l17_weigh]
    simp [c1, c2, c3, hadd, hadd2]
  obtain ⟨b1, hb1⟩ := sp_l17_light _ hz.a
  obtain ⟨b2, hb2⟩ := sp_l17_light _ hz.b
  cases b1
  · refine ⟨501, call_l17_weigh _ _ ?_, by omega, by omega⟩
    rw [eq_l17_weigh]
    simp [c1, c2, c3, hadd, hadd2, Ty.eta, hb1]
  cases b2
  · refine ⟨501, call_l17_weigh _ _ ?_, by omega, by omega⟩
    rw [eq_l17_weigh]
    simp [c1, c2, c3, hadd, hadd2, Ty.eta, hb1, hb2]
  refine ⟨n + 1 + t.vars.length, call_l17_weigh _ _ ?_, by omega, by omega⟩
  rw [eq_l17_weigh]
  simp [c1, c2, c3, hadd, hadd2, Ty.eta, hb1, hb2]
  exact l1 _ (by omega)

theorem sp_l17_Heavy2 (l : List Tm) (hl : l.length ≤ 16) (ft : ∀ t ∈ l, t.fit) (hz : ∀ t ∈ l, t.sized) : ∃ b : Bool, (run cfg).p F_l17_Heavy [.list 20 (l.map Tm.enc)] = some (.bool b) ∧ (b = false → (l.map Tm.size).sum ≤ 500) := by
  have loop : ∀ (k j : Nat) (n : Int), j + k = l.length → 0 ≤ n → n ≤ (j + 1) * 5000000000 → ∃ b : Bool, P_l17_Heavy_3h (run cfg) (.list 20 (l.map Tm.enc)) (.int .i64 n) (.int .i64 (j : Int)) = some (.bool b) ∧ (b = false → n + (((l.drop j).map Tm.size).sum : Nat) ≤ 500) := by
    intro k
    induction k with
    | zero =>
      intro j n hj h0 h1
      have : ¬ j < l.length := by omega
      refine ⟨decide (500 < n), ?_, fun h => ?_⟩
      · rw [eq_l17_Heavy_3h]
        simp [this]
      · rw [List.drop_of_length_le (by omega)]
        simp at h
        simp
        omega
    | succ k ih =>
      intro j n hj h0 h1
      have h : j < l.length := by omega
      obtain ⟨m, a1, a2, a3, a4⟩ : ∃ m : Int, (run cfg).p F_l17_weigh [l[j].enc, .int .i64 n] = some (.int .i64 m) ∧ 0 ≤ m ∧ m ≤ n + 5000000000 ∧ (m ≤ 500 → n + l[j].size ≤ m) := by
        by_cases hn : n ≤ 500
        · obtain ⟨m, a1, a2, a3, a4⟩ := sp_l17_weigh2 _ (ft _ (List.getElem_mem h)) (hz _ (List.getElem_mem h)) n h0 hn
          exact ⟨m, a1, a2, by omega, a4⟩
        · obtain ⟨m, a1, a2, a3⟩ := sp_l17_weigh_more2 _ (ft _ (List.getElem_mem h)) (hz _ (List.getElem_mem h)) n (by omega) (by omega)
          exact ⟨m, a1, by omega, by omega, fun h => absurd h (by omega)⟩
      obtain ⟨b, hb, hb2⟩ := ih (j + 1) m (by omega) a2 (by omega)
      push_cast at hb
      refine ⟨b, ?_, fun hf => ?_⟩
      · rw [eq_l17_Heavy_3h]
        simp [h, dIdx_map h, Tm.eta, a1, dAdd1 (show j < 9223372036854775807 by omega), hb]
      · have g1 := hb2 hf
        rw [List.drop_eq_getElem_cons h, List.map_cons, List.sum_cons]
        have g2 := a4 (by omega)
        push_cast
        omega
  obtain ⟨b, hb, hb2⟩ := loop l.length 0 0 (by omega) (by omega) (by omega)
  refine ⟨b, call_l17_Heavy _ ?_, fun h => ?_⟩
  · rw [eq_l17_Heavy]
    simpa using hb
  · have := hb2 h
    simp at this
    omega

end Go.Su

/-
  The law TermLeaves answers true on data.
-/
namespace Go.Su
set_option linter.unusedVariables false
set_option linter.unusedSimpArgs false

/-- A number made of any that is below a bound. -/
theorem sp_keep_Int (x : Int) (n : Nat) (h0 : 0 < n) (h1 : n ≤ lim) : ∃ r : Nat, r < n ∧ (run cfg).p F_keep_Int [.int .i64 x, .int .i64 n] = some (.int .i64 r) := by
  have hb := big h1
  have hn : ¬ ((n : Int) < 1) := by omega
  have hu : IntKind.u64.wrap (n : Int) = n := Go.IntWalk.u64_in _ ⟨by omega, by omega⟩
  have hx : 0 ≤ IntKind.u64.wrap x := by
    simp [IntKind.wrap, IntKind.bits, IntKind.signed]; omega
  generalize hw : IntKind.u64.wrap x = w at hx
  have hr1 : 0 ≤ w.tmod n := Int.tmod_nonneg _ hx
  have hr2 : w.tmod n < n := Int.tmod_lt_of_pos _ (by omega)
  refine ⟨(w.tmod n).toNat, by omega, call_keep_Int _ _ ?_⟩
  have hrem : dBin .rem (.int .u64 w) (.int .u64 (n : Int)) = some (.int .u64 (w.tmod n)) := by
    have : ¬ ((n : Int) = 0) := by omega
    simp [dBin, isShift, dArith]
    omega
  have hi : IntKind.i64.wrap (w.tmod n) = w.tmod n := Go.IntWalk.i64_in _ ⟨by omega, by omega⟩
  have hc : ((w.tmod n).toNat : Int) = w.tmod n := by omega
  rw [eq_keep_Int]
  simp only [dBin_lss, hn, decide_false, ob_some', oif_bool, Bool.false_eq_true, if_false, dConv, hw, hu, hrem, hi, hc]

theorem Tm.name_fr (t : Tm) : t.right = true → ∀ (L : List ByteArray) (x : ByteArray), x ∈ t.fr L → nameB x = true := by
  induction t using Tm.ind with
  | h t ih =>
    intro h L x hx
    rcases Tm.mem_fr.1 hx with ⟨hk, hn, _⟩ | ⟨j, k, hk, hx⟩
    · have h1 := Tm.right_one h
      unfold Tm.one at h1
      simp only [Bool.and_eq_true] at h1
      have h2 : namedB (kName t.kind) t.name = true := h1.1.1.1.1.2
      rw [hk] at h2
      rw [hn]
      exact h2
    · have hm := Tm.kid_mem hk
      exact ih k hm (Tm.right_kid h hm) _ x hx

def qB : ByteArray := ⟨#[113]⟩
theorem nameB_q : nameB qB = true := by decide

theorem dApp_str1 (l : List ByteArray) (s : ByteArray) (h : l.length + 1 ≤ lim) : dApp 1 (encStrs l) (.list 1 [.str s]) = some (encStrs (l ++ [s])) := by
  simp [dApp, encStrs, h]

/-- What is left of the names. -/
theorem leaves_loop (F : List ByteArray) (hF : F.length ≤ lim) (s : ByteArray) (e : DV) (t u : DV) (out : Option DV)
    (hend : P_l17_TermLeaves_12h (run cfg) (encStrs F) (.str s) e (encStrs (F.filter fun x => !decide (x = s))) (.int .i64 F.length) t u = out) :
    P_l17_TermLeaves_12h (run cfg) (encStrs F) (.str s) e (.list 1 []) (.int .i64 0) t u = out := by
  have hb := big hF
  have loop : ∀ (k j : Nat), j + k = F.length → P_l17_TermLeaves_12h (run cfg) (encStrs F) (.str s) e (encStrs ((F.take j).filter fun x => !decide (x = s))) (.int .i64 j) t u = out := by
    intro k
    induction k with
    | zero =>
      intro j hj
      have : j = F.length := by omega
      subst this
      rw [List.take_length]
      exact hend
    | succ k ih =>
      intro j hj
      have h : j < F.length := by omega
      have hi := ih (j + 1) (by omega)
      rw [List.take_succ_eq_append_getElem h, List.filter_append] at hi
      push_cast at hi
      have hl : ((F.take j).filter fun x => !decide (x = s)).length + 1 ≤ lim := by
        have := List.length_filter_le (fun x => !decide (x = s)) (F.take j)
        simp only [List.length_take] at this
        omega
      rw [eq_l17_TermLeaves_12h]
      have hlt : (j : Int) < (F.length : Int) := by omega
      by_cases c : F[j] = s
      · simp [hlt, dIdx_strs h, c, dAdd1 (show j < 9223372036854775807 by omega)] at hi ⊢
        exact hi
      · simp [hlt, dIdx_strs h, c, dAdd1 (show j < 9223372036854775807 by omega), dApp_str1 _ _ hl] at hi ⊢
        exact hi
  have := loop F.length 0 (by omega)
  simpa [encStrs_nil] using this

theorem leaves_rest (t v : Tm) (s : ByteArray) (ft : t.fit) (fv : v.fit) (rt : t.right = true) (rv : v.right = true) (hv : v.free = []) (hn : nameB s = true) (hs : s.size ≤ lim)
    (hz : t.size ≤ 500) (hm : t.mass ≤ 1048576) (hm2 : v.mass ≤ 1048576) (hq : t.free = [] → s ∉ t.free) :
    P_l17_TermLeaves_7 (run cfg) (encStrs t.free) (.str s) t.enc v.enc = some (.bool true) := by
  have ee : ∀ k : Tm, (DV.agg [proj 0 k.enc, proj 1 k.enc, proj 2 k.enc, proj 3 k.enc, proj 4 k.enc, proj 5 k.enc, proj 6 k.enc, proj 7 k.enc, proj 8 k.enc, proj 9 k.enc, proj 10 k.enc, proj 11 k.enc, proj 12 k.enc, proj 13 k.enc, proj 14 k.enc, proj 15 k.enc, proj 16 k.enc, proj 17 k.enc, proj 18 k.enc, proj 19 k.enc]) = k.enc := fun k => by simp [Tm.eta]
  have h := sp_term_Put0 t v s ft fv (by unfold lim; omega) (by unfold lim; omega) hs
  rw [if_pos ⟨rt, rv, hn, hv⟩] at h
  have hl : t.free.length ≤ lim := by have := t.free_len; unfold lim; omega
  have hne : t.free ≠ [] → (0 : Int) < (t.free.length : Int) := fun h => by have := List.length_pos_iff.2 h; omega
  rw [eq_l17_TermLeaves_7]
  cases hp : t.put0 s v with
  | none =>
    have hf : t.free ≠ [] := by
      intro h0
      have := Tm.put0_closed h0 s v
      rw [this] at hp
      cases hp
    rw [hp] at h
    have he : ∃ u : Tm, putOut none = .tup [u.enc, .int .i64 8] := ⟨zeroTm, rfl⟩
    obtain ⟨u, he⟩ := he
    rw [he] at h
    simp [ee, Tm.eta, h, dExt, w_l17_wakes, List.length_pos_iff.2 hf]
  | some u =>
    rw [hp] at h
    have hr := Tm.put0_right t s v rv rt _ hp
    have hmu := Tm.put0_mass t s v _ hp
    have k1 : t.size * v.mass ≤ 500 * v.mass := Nat.mul_le_mul_right _ hz
    have fu := Tm.put0_fit t s v fv ft _ hp
    have hfr := Tm.put0_fr t s v hv rt u [] (by simp) hp
    have hF := sp_term_Free u fu (by unfold lim; omega)
    rw [if_pos hr] at hF
    have hC := sp_term_Check u fu
    rw [if_pos hr] at hC
    have hu : u.free.length ≤ lim := by have := u.free_len; have := u.size_mass; unfold lim; omega
    have hfree : u.free = t.free.filter fun x => !decide (x = s) := by
      refine Rises.eq u.free_rises ?_ fun x => ?_
      · exact List.Pairwise.filter _ t.free_rises
      · rw [Tm.mem_free, hfr, List.mem_filter, Tm.mem_free]
        simp
    have hT := sp_keep_Texts u.free u.free hu
    rw [decide_eq_true rfl] at hT
    have hS := sp_term_Same u fu t
    simp [ee, Tm.eta, h, putOut, dExt]
    refine leaves_loop _ hl _ _ _ _ _ ?_
    rw [eq_l17_TermLeaves_12h]
    rw [← hfree]
    by_cases hf : t.free = []
    · have hsame : u = t := by
        have := Tm.put0_closed hf s v
        rw [this] at hp
        cases hp
        rfl
      subst hsame
      simp [ee, Tm.eta, hF, hT, hC, hS, hf, w_l17_wakes] at hT ⊢
      simp [ee, Tm.eta, hF, hT, hC, hS, hf, w_l17_wakes] 
    · simp [ee, Tm.eta, hF, hT, hC, w_l17_wakes, List.length_pos_iff.2 hf]

theorem law_termleaves (t v : Tm) (w : Int) (hm : t.mass + v.mass ≤ 1048576) : (run cfg).p F_l17_TermLeaves [t.enc, v.enc, .int .i64 w] = some (.bool true) := by
  have ft : t.fit := Tm.fit_mass (by omega)
  have fv : v.fit := Tm.fit_mass (by omega)
  have zt : t.sized := Tm.sized_mass (by omega)
  have zv : v.sized := Tm.sized_mass (by omega)
  have ee : ∀ k : Tm, (DV.agg [proj 0 k.enc, proj 1 k.enc, proj 2 k.enc, proj 3 k.enc, proj 4 k.enc, proj 5 k.enc, proj 6 k.enc, proj 7 k.enc, proj 8 k.enc, proj 9 k.enc, proj 10 k.enc, proj 11 k.enc, proj 12 k.enc, proj 13 k.enc, proj 14 k.enc, proj 15 k.enc, proj 16 k.enc, proj 17 k.enc, proj 18 k.enc, proj 19 k.enc]) = k.enc := fun k => by simp [Tm.eta]
  obtain ⟨b1, h1, h1'⟩ := sp_l17_Heavy2 [t, v] (by simp) (by simp [ft, fv]) (by simp [zt, zv])
  simp only [List.map_cons, List.map_nil] at h1
  have r1 := sp_r17_Right t ft
  have r2 := sp_r17_Right v fv
  refine call_l17_TermLeaves _ _ _ ?_
  rw [eq_l17_TermLeaves]
  simp only [ee, isAggN_Tm, og_true', h1, ob_some', ogd_bool, r1, r2, dUn_not, dLenS_str]
  cases b1
  rotate_left
  · simp
  have hz := h1' rfl
  simp only [List.map_cons, List.map_nil, List.sum_cons, List.sum_nil] at hz
  cases c1 : t.right
  · simp
  cases c2 : v.right
  · simp
  have f2 := sp_r17_Free v fv c2 (by unfold lim; omega)
  simp only [Bool.false_eq_true, if_false, Bool.not_true, f2, ob_some', dLen_strs, dBin_gtr, ogd_bool]
  by_cases d2 : v.free = []
  rotate_left
  · have : 0 < v.free.length := List.length_pos_iff.2 d2
    simp [this]
  have f1 := sp_term_Free t ft (by unfold lim; omega)
  rw [c1, if_pos rfl] at f1
  have hl : t.free.length ≤ lim := by have := t.free_len; unfold lim; omega
  by_cases hf : t.free = []
  · have hr := leaves_rest t v qB ft fv c1 c2 d2 nameB_q (by decide) (by omega) (by omega) (by omega) (by intro h; rw [h]; simp)
    rw [hf] at hr f1
    simp [d2, f1, encStrs_nil]
    exact hr
  · have hp := List.length_pos_iff.2 hf
    have hpi : (0 : Int) < (t.free.length : Int) := by omega
    obtain ⟨r, hr, hk⟩ := sp_keep_Int w t.free.length hp hl
    have hmem : t.free[r] ∈ t.free := List.getElem_mem hr
    have hn := Tm.name_fr t c1 [] _ (Tm.mem_free.1 hmem)
    have hsz : t.free[r].size ≤ lim := by
      have h2 := hn
      unfold nameB at h2
      simp only [Bool.and_eq_true, decide_eq_true_eq] at h2
      unfold lim; omega
    have hr := leaves_rest t v t.free[r] ft fv c1 c2 d2 hn hsz (by omega) (by omega) (by omega) (fun h => absurd h hf)
    simp [d2, f1, hf, hp, hk, dIdx_strs (by assumption), hr]

end Go.Su
