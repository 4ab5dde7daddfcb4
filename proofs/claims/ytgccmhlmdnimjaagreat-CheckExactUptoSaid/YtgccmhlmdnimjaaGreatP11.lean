/-
  Equations of the program's functions: by program.
-/
import Derived.Test.YtgccmhlmdnimjaaGreatP5
namespace Go.Su
open Go.Proofs
set_option linter.unusedVariables false

/-! ### term_one -/
noncomputable def code_term_one : Code := Tryz.f157.body.getD .skip
noncomputable def P_term_one (R : Orc) (x0 : DV) : Option DV := evP cfg R fl_term_one (retP cfg.P Tryz.f157) [] code_term_one (initSt Tryz.f157 [(x0, .val)] [])
noncomputable def P_term_one_4 (R : Orc) (b1 : DV) (b3 : DV) : Option DV := evP cfg R fl_term_one (retP cfg.P Tryz.f157) [true, true, false, false, true, true] code_term_one ⟨spread .undef 183 0 [], spread .val 183 0 [(1, (.loc 1 0)), (3, (.loc 3 0))], spread none 183 0 [(1, some [((proj 0 b1), .val), ((proj 1 b1), .val), ((proj 2 b1), .val), ((proj 3 b1), .val), ((proj 4 b1), .val), ((proj 5 b1), .val), ((proj 6 b1), .val), ((proj 7 b1), .val), ((proj 8 b1), .val), ((proj 9 b1), .val), ((proj 10 b1), .val), ((proj 11 b1), .val), ((proj 12 b1), .val), ((proj 13 b1), .val), ((proj 14 b1), .val), ((proj 15 b1), .val), ((proj 16 b1), .val), ((proj 17 b1), .val), ((proj 18 b1), .val), ((proj 19 b1), .val)]), (3, some [((proj 0 b3), .val), ((proj 1 b3), .val), ((proj 2 b3), .val), ((proj 3 b3), .val), ((proj 4 b3), .val), ((proj 5 b3), .val), ((proj 6 b3), .val), ((proj 7 b3), .val), ((proj 8 b3), .val), ((proj 9 b3), .val), ((proj 10 b3), .val), ((proj 11 b3), .val), ((proj 12 b3), .val)])], []⟩
noncomputable def P_term_one_6 (R : Orc) (b1 : DV) (b3 : DV) : Option DV := evP cfg R fl_term_one (retP cfg.P Tryz.f157) [true, true, false, false, true, true, true, true] code_term_one ⟨spread .undef 183 0 [], spread .val 183 0 [(1, (.loc 1 0)), (3, (.loc 3 0))], spread none 183 0 [(1, some [((proj 0 b1), .val), ((proj 1 b1), .val), ((proj 2 b1), .val), ((proj 3 b1), .val), ((proj 4 b1), .val), ((proj 5 b1), .val), ((proj 6 b1), .val), ((proj 7 b1), .val), ((proj 8 b1), .val), ((proj 9 b1), .val), ((proj 10 b1), .val), ((proj 11 b1), .val), ((proj 12 b1), .val), ((proj 13 b1), .val), ((proj 14 b1), .val), ((proj 15 b1), .val), ((proj 16 b1), .val), ((proj 17 b1), .val), ((proj 18 b1), .val), ((proj 19 b1), .val)]), (3, some [((proj 0 b3), .val), ((proj 1 b3), .val), ((proj 2 b3), .val), ((proj 3 b3), .val), ((proj 4 b3), .val), ((proj 5 b3), .val), ((proj 6 b3), .val), ((proj 7 b3), .val), ((proj 8 b3), .val), ((proj 9 b3), .val), ((proj 10 b3), .val), ((proj 11 b3), .val), ((proj 12 b3), .val)])], []⟩
noncomputable def P_term_one_8 (R : Orc) (b1 : DV) (b3 : DV) : Option DV := evP cfg R fl_term_one (retP cfg.P Tryz.f157) [true, true, false, false, true, true, true, true, true, true] code_term_one ⟨spread .undef 183 0 [], spread .val 183 0 [(1, (.loc 1 0)), (3, (.loc 3 0))], spread none 183 0 [(1, some [((proj 0 b1), .val), ((proj 1 b1), .val), ((proj 2 b1), .val), ((proj 3 b1), .val), ((proj 4 b1), .val), ((proj 5 b1), .val), ((proj 6 b1), .val), ((proj 7 b1), .val), ((proj 8 b1), .val), ((proj 9 b1), .val), ((proj 10 b1), .val), ((proj 11 b1), .val), ((proj 12 b1), .val), ((proj 13 b1), .val), ((proj 14 b1), .val), ((proj 15 b1), .val), ((proj 16 b1), .val), ((proj 17 b1), .val), ((proj 18 b1), .val), ((proj 19 b1), .val)]), (3, some [((proj 0 b3), .val), ((proj 1 b3), .val), ((proj 2 b3), .val), ((proj 3 b3), .val), ((proj 4 b3), .val), ((proj 5 b3), .val), ((proj 6 b3), .val), ((proj 7 b3), .val), ((proj 8 b3), .val), ((proj 9 b3), .val), ((proj 10 b3), .val), ((proj 11 b3), .val), ((proj 12 b3), .val)])], []⟩
noncomputable def P_term_one_10 (R : Orc) (b1 : DV) (b3 : DV) : Option DV := evP cfg R fl_term_one (retP cfg.P Tryz.f157) [true, true, false, false, true, true, true, true, true, true, true, true] code_term_one ⟨spread .undef 183 0 [], spread .val 183 0 [(1, (.loc 1 0)), (3, (.loc 3 0))], spread none 183 0 [(1, some [((proj 0 b1), .val), ((proj 1 b1), .val), ((proj 2 b1), .val), ((proj 3 b1), .val), ((proj 4 b1), .val), ((proj 5 b1), .val), ((proj 6 b1), .val), ((proj 7 b1), .val), ((proj 8 b1), .val), ((proj 9 b1), .val), ((proj 10 b1), .val), ((proj 11 b1), .val), ((proj 12 b1), .val), ((proj 13 b1), .val), ((proj 14 b1), .val), ((proj 15 b1), .val), ((proj 16 b1), .val), ((proj 17 b1), .val), ((proj 18 b1), .val), ((proj 19 b1), .val)]), (3, some [((proj 0 b3), .val), ((proj 1 b3), .val), ((proj 2 b3), .val), ((proj 3 b3), .val), ((proj 4 b3), .val), ((proj 5 b3), .val), ((proj 6 b3), .val), ((proj 7 b3), .val), ((proj 8 b3), .val), ((proj 9 b3), .val), ((proj 10 b3), .val), ((proj 11 b3), .val), ((proj 12 b3), .val)])], []⟩
noncomputable def P_term_one_12 (R : Orc) (b1 : DV) (b3 : DV) : Option DV := evP cfg R fl_term_one (retP cfg.P Tryz.f157) [true, true, false, false, true, true, true, true, true, true, true, true, true, true] code_term_one ⟨spread .undef 183 0 [], spread .val 183 0 [(1, (.loc 1 0)), (3, (.loc 3 0))], spread none 183 0 [(1, some [((proj 0 b1), .val), ((proj 1 b1), .val), ((proj 2 b1), .val), ((proj 3 b1), .val), ((proj 4 b1), .val), ((proj 5 b1), .val), ((proj 6 b1), .val), ((proj 7 b1), .val), ((proj 8 b1), .val), ((proj 9 b1), .val), ((proj 10 b1), .val), ((proj 11 b1), .val), ((proj 12 b1), .val), ((proj 13 b1), .val), ((proj 14 b1), .val), ((proj 15 b1), .val), ((proj 16 b1), .val), ((proj 17 b1), .val), ((proj 18 b1), .val), ((proj 19 b1), .val)]), (3, some [((proj 0 b3), .val), ((proj 1 b3), .val), ((proj 2 b3), .val), ((proj 3 b3), .val), ((proj 4 b3), .val), ((proj 5 b3), .val), ((proj 6 b3), .val), ((proj 7 b3), .val), ((proj 8 b3), .val), ((proj 9 b3), .val), ((proj 10 b3), .val), ((proj 11 b3), .val), ((proj 12 b3), .val)])], []⟩
set_option maxRecDepth 100000 in
theorem eq_term_one (R : Orc) (x0 : DV) : P_term_one R x0 =
  (og (isAggN 20 x0) <|
  ob (R.p F_term_shapeOf [(.agg [(proj 0 x0), (proj 1 x0), (proj 2 x0), (proj 3 x0), (proj 4 x0), (proj 5 x0), (proj 6 x0), (proj 7 x0), (proj 8 x0), (proj 9 x0), (proj 10 x0), (proj 11 x0), (proj 12 x0), (proj 13 x0), (proj 14 x0), (proj 15 x0), (proj 16 x0), (proj 17 x0), (proj 18 x0), (proj 19 x0)])]) fun d1 =>
  ob (dExt 0 d1) fun d2 =>
  ob (dExt 1 d1) fun d3 =>
  og (isAggN 13 d2) <|
  ob (dUn .not d3) fun d4 =>
  ogd d4
   (some (.bool false))
   (ob (dLen (proj 19 x0)) fun d5 =>
   ob (dBin .neq d5 (proj 12 d2)) fun d6 =>
   ogd d6
    (some (.bool false))
    (ob (R.p F_term_named [(proj 0 d2), (proj 3 x0)]) fun d7 =>
    ob (dUn .not d7) fun d8 =>
    ogd d8
     (some (.bool false))
     (ob (R.p F_term_named [(proj 1 d2), (proj 4 x0)]) fun d9 =>
     ob (dUn .not d9) fun d10 =>
     ogd d10
      (some (.bool false))
      (ob (R.p F_term_typed [(proj 9 d2), (.agg [(proj 11 x0), (proj 12 x0), (proj 13 x0)])]) fun d11 =>
      ob (dUn .not d11) fun d12 =>
      ogd d12
       (some (.bool false))
       (ob (R.p F_term_typed [(proj 10 d2), (.agg [(proj 14 x0), (proj 15 x0), (proj 16 x0)])]) fun d13 =>
       ob (dUn .not d13) fun d14 =>
       oif d14
        (some (.bool false))
        (P_term_one_4 R x0 d2))
       none)
      none)
     none)
    none)
   none) := evP_of [4, 6, 8, 10, 12] (by kernel_rfl)
set_option maxRecDepth 100000 in
theorem eq_term_one_4 (R : Orc) (b1 : DV) (b3 : DV) : P_term_one_4 R b1 b3 =
  (ob (dUn .not (proj 2 b3)) fun d1 =>
  ogd d1
   (ob (dBin .neq (proj 5 b1) (.int .i64 0)) fun d2 =>
   ogd d2
    (some (.bool false))
    (ob (dBin .eql (proj 0 b1) (.int .i64 3)) fun d3 =>
    ogd d3
     (ob (dBin .neq (proj 5 b1) (.int .i64 0)) fun d4 =>
     ogd d4
      (ob (dBin .neq (proj 5 b1) (.int .i64 1)) fun d5 =>
      oif d5
       (some (.bool false))
       (P_term_one_6 R b1 b3))
      (P_term_one_6 R b1 b3)
      none)
     (P_term_one_6 R b1 b3)
     none)
    none)
   (ob (dBin .eql (proj 0 b1) (.int .i64 3)) fun d6 =>
   ogd d6
    (ob (dBin .neq (proj 5 b1) (.int .i64 0)) fun d7 =>
    ogd d7
     (ob (dBin .neq (proj 5 b1) (.int .i64 1)) fun d8 =>
     oif d8
      (some (.bool false))
      (P_term_one_6 R b1 b3))
     (P_term_one_6 R b1 b3)
     none)
    (P_term_one_6 R b1 b3)
    none)
   none) := evP_of [4, 6, 8, 10, 12] (by kernel_rfl)
set_option maxRecDepth 100000 in
theorem eq_term_one_6 (R : Orc) (b1 : DV) (b3 : DV) : P_term_one_6 R b1 b3 =
  (ob (dUn .not (proj 3 b3)) fun d1 =>
  ogd d1
   (ob (dBin .neq (proj 6 b1) (.str ⟨#[]⟩)) fun d2 =>
   ogd d2
    (some (.bool false))
    (ob (dLenS (proj 6 b1)) fun d3 =>
    ob (dBin .gtr d3 (.int .i64 200)) fun d4 =>
    ogd d4
     (some (.bool false))
     (ob (dUn .not (proj 5 b3)) fun d5 =>
     ogd d5
      (ob (dEqA [.int, .int] (.agg [(proj 1 b1), (proj 2 b1)]) (.agg [(.int .i64 0), (.int .i64 0)])) fun b6 =>
      oif (.bool !b6)
       (some (.bool false))
       (P_term_one_8 R b1 b3))
      (P_term_one_8 R b1 b3)
      none)
     none)
    none)
   (ob (dLenS (proj 6 b1)) fun d7 =>
   ob (dBin .gtr d7 (.int .i64 200)) fun d8 =>
   ogd d8
    (some (.bool false))
    (ob (dUn .not (proj 5 b3)) fun d9 =>
    ogd d9
     (ob (dEqA [.int, .int] (.agg [(proj 1 b1), (proj 2 b1)]) (.agg [(.int .i64 0), (.int .i64 0)])) fun b10 =>
     oif (.bool !b10)
      (some (.bool false))
      (P_term_one_8 R b1 b3))
     (P_term_one_8 R b1 b3)
     none)
    none)
   none) := evP_of [4, 6, 8, 10, 12] (by kernel_rfl)
set_option maxRecDepth 100000 in
theorem eq_term_one_8 (R : Orc) (b1 : DV) (b3 : DV) : P_term_one_8 R b1 b3 =
  (ogd (proj 4 b3)
   (ob (dBin .lss (proj 7 b1) (.int .i64 1)) fun d1 =>
   ogd d1
    (some (.bool false))
    (ob (dBin .gtr (proj 7 b1) (.int .i64 7)) fun d2 =>
    ogd d2
     (some (.bool false))
     (ob (dUn .not (proj 4 b3)) fun d3 =>
     ogd d3
      (ob (dBin .neq (proj 7 b1) (.int .i64 0)) fun d4 =>
      oif d4
       (some (.bool false))
       (P_term_one_10 R b1 b3))
      (P_term_one_10 R b1 b3)
      none)
     none)
    none)
   (ob (dUn .not (proj 4 b3)) fun d5 =>
   ogd d5
    (ob (dBin .neq (proj 7 b1) (.int .i64 0)) fun d6 =>
    oif d6
     (some (.bool false))
     (P_term_one_10 R b1 b3))
    (P_term_one_10 R b1 b3)
    none)
   none) := evP_of [4, 6, 8, 10, 12] (by kernel_rfl)
set_option maxRecDepth 100000 in
theorem eq_term_one_10 (R : Orc) (b1 : DV) (b3 : DV) : P_term_one_10 R b1 b3 =
  (ob (dUn .not (proj 11 b3)) fun d1 =>
  ogd d1
   (ob (dBin .neq (proj 8 b1) (.int .i64 0)) fun d2 =>
   ogd d2
    (some (.bool false))
    (ogd (proj 9 b1)
     (some (.bool false))
     (ob (dBin .lss (proj 8 b1) (.int .i64 0)) fun d3 =>
     ogd d3
      (some (.bool false))
      (ob (dBin .gtr (proj 8 b1) (.int .i64 1048576)) fun d4 =>
      oif d4
       (some (.bool false))
       (P_term_one_12 R b1 b3))
      none)
     none)
    none)
   (ob (dBin .lss (proj 8 b1) (.int .i64 0)) fun d5 =>
   ogd d5
    (some (.bool false))
    (ob (dBin .gtr (proj 8 b1) (.int .i64 1048576)) fun d6 =>
    oif d6
     (some (.bool false))
     (P_term_one_12 R b1 b3))
    none)
   none) := evP_of [4, 6, 8, 10, 12] (by kernel_rfl)
set_option maxRecDepth 100000 in
theorem eq_term_one_12 (R : Orc) (b1 : DV) (b3 : DV) : P_term_one_12 R b1 b3 =
  (ob (dUn .not (proj 6 b3)) fun d1 =>
  ogd d1
   (ob (dLen (proj 10 b1)) fun d2 =>
   ob (dBin .gtr d2 (.int .i64 0)) fun d3 =>
   ogd d3
    (some (.bool false))
    (ob (dUn .not (proj 7 b3)) fun d4 =>
    ogd d4
     (ob (dLen (proj 17 b1)) fun d5 =>
     ob (dBin .gtr d5 (.int .i64 0)) fun d6 =>
     ogd d6
      (some (.bool false))
      (ob (dUn .not (proj 8 b3)) fun d7 =>
      ogd d7
       (ob (dLen (proj 18 b1)) fun d8 =>
       ob (dBin .gtr d8 (.int .i64 0)) fun d9 =>
       oif d9
        (some (.bool false))
        (ob (R.p F_term_lists [(.agg [(proj 0 b1), (proj 1 b1), (proj 2 b1), (proj 3 b1), (proj 4 b1), (proj 5 b1), (proj 6 b1), (proj 7 b1), (proj 8 b1), (proj 9 b1), (proj 10 b1), (proj 11 b1), (proj 12 b1), (proj 13 b1), (proj 14 b1), (proj 15 b1), (proj 16 b1), (proj 17 b1), (proj 18 b1), (proj 19 b1)])]) fun d10 =>
        some d10))
       (ob (R.p F_term_lists [(.agg [(proj 0 b1), (proj 1 b1), (proj 2 b1), (proj 3 b1), (proj 4 b1), (proj 5 b1), (proj 6 b1), (proj 7 b1), (proj 8 b1), (proj 9 b1), (proj 10 b1), (proj 11 b1), (proj 12 b1), (proj 13 b1), (proj 14 b1), (proj 15 b1), (proj 16 b1), (proj 17 b1), (proj 18 b1), (proj 19 b1)])]) fun d11 =>
       some d11)
       none)
      none)
     (ob (dUn .not (proj 8 b3)) fun d12 =>
     ogd d12
      (ob (dLen (proj 18 b1)) fun d13 =>
      ob (dBin .gtr d13 (.int .i64 0)) fun d14 =>
      oif d14
       (some (.bool false))
       (ob (R.p F_term_lists [(.agg [(proj 0 b1), (proj 1 b1), (proj 2 b1), (proj 3 b1), (proj 4 b1), (proj 5 b1), (proj 6 b1), (proj 7 b1), (proj 8 b1), (proj 9 b1), (proj 10 b1), (proj 11 b1), (proj 12 b1), (proj 13 b1), (proj 14 b1), (proj 15 b1), (proj 16 b1), (proj 17 b1), (proj 18 b1), (proj 19 b1)])]) fun d15 =>
       some d15))
      (ob (R.p F_term_lists [(.agg [(proj 0 b1), (proj 1 b1), (proj 2 b1), (proj 3 b1), (proj 4 b1), (proj 5 b1), (proj 6 b1), (proj 7 b1), (proj 8 b1), (proj 9 b1), (proj 10 b1), (proj 11 b1), (proj 12 b1), (proj 13 b1), (proj 14 b1), (proj 15 b1), (proj 16 b1), (proj 17 b1), (proj 18 b1), (proj 19 b1)])]) fun d16 =>
      some d16)
      none)
     none)
    none)
   (ob (dUn .not (proj 7 b3)) fun d17 =>
   ogd d17
    (ob (dLen (proj 17 b1)) fun d18 =>
    ob (dBin .gtr d18 (.int .i64 0)) fun d19 =>
    ogd d19
     (some (.bool false))
     (ob (dUn .not (proj 8 b3)) fun d20 =>
     ogd d20
      (ob (dLen (proj 18 b1)) fun d21 =>
      ob (dBin .gtr d21 (.int .i64 0)) fun d22 =>
      oif d22
       (some (.bool false))
       (ob (R.p F_term_lists [(.agg [(proj 0 b1), (proj 1 b1), (proj 2 b1), (proj 3 b1), (proj 4 b1), (proj 5 b1), (proj 6 b1), (proj 7 b1), (proj 8 b1), (proj 9 b1), (proj 10 b1), (proj 11 b1), (proj 12 b1), (proj 13 b1), (proj 14 b1), (proj 15 b1), (proj 16 b1), (proj 17 b1), (proj 18 b1), (proj 19 b1)])]) fun d23 =>
       some d23))
      (ob (R.p F_term_lists [(.agg [(proj 0 b1), (proj 1 b1), (proj 2 b1), (proj 3 b1), (proj 4 b1), (proj 5 b1), (proj 6 b1), (proj 7 b1), (proj 8 b1), (proj 9 b1), (proj 10 b1), (proj 11 b1), (proj 12 b1), (proj 13 b1), (proj 14 b1), (proj 15 b1), (proj 16 b1), (proj 17 b1), (proj 18 b1), (proj 19 b1)])]) fun d24 =>
      some d24)
      none)
     none)
    (ob (dUn .not (proj 8 b3)) fun d25 =>
    ogd d25
     (ob (dLen (proj 18 b1)) fun d26 =>
     ob (dBin .gtr d26 (.int .i64 0)) fun d27 =>
     oif d27
      (some (.bool false))
      (ob (R.p F_term_lists [(.agg [(proj 0 b1), (proj 1 b1), (proj 2 b1), (proj 3 b1), (proj 4 b1), (proj 5 b1), (proj 6 b1), (proj 7 b1), (proj 8 b1), (proj 9 b1), (proj 10 b1), (proj 11 b1), (proj 12 b1), (proj 13 b1), (proj 14 b1), (proj 15 b1), (proj 16 b1), (proj 17 b1), (proj 18 b1), (proj 19 b1)])]) fun d28 =>
      some d28))
     (ob (R.p F_term_lists [(.agg [(proj 0 b1), (proj 1 b1), (proj 2 b1), (proj 3 b1), (proj 4 b1), (proj 5 b1), (proj 6 b1), (proj 7 b1), (proj 8 b1), (proj 9 b1), (proj 10 b1), (proj 11 b1), (proj 12 b1), (proj 13 b1), (proj 14 b1), (proj 15 b1), (proj 16 b1), (proj 17 b1), (proj 18 b1), (proj 19 b1)])]) fun d29 =>
     some d29)
     none)
    none)
   none) := evP_of [4, 6, 8, 10, 12] (by kernel_rfl)
theorem call_term_one (x0 : DV) {d : DV} (h : P_term_one (run cfg) x0 = some d) : (run cfg).p F_term_one [x0] = some d :=
  run_pure (fn := Tryz.f157) (c := code_term_one) (by kernel_rfl) Tryz.func157 (by kernel_rfl) ((show _ = P_term_one (run cfg) x0 by kernel_rfl).trans h)

/-! ### typ_right -/
noncomputable def code_typ_right : Code := Tryz.f162.body.getD .skip
noncomputable def P_typ_right (R : Orc) (x0 : DV) : Option DV := evP cfg R fl_typ_right (retP cfg.P Tryz.f162) [] code_typ_right (initSt Tryz.f162 [(x0, .val)] [])
noncomputable def P_typ_right_9h (R : Orc) (t33 : DV) (t34 : DV) (t35 : DV) : Option DV := headP cfg R fl_typ_right (retP cfg.P Tryz.f162) [true, true, true, true, false, true, false] code_typ_right ⟨spread .undef 43 0 [(33, t33), (34, t34), (35, t35)], spread .val 43 0 [], spread none 43 0 [], []⟩
theorem eq_typ_right (R : Orc) (x0 : DV) : P_typ_right R x0 =
  (og (isAggN 3 x0) <|
  ob (R.p F_typ_arity [(proj 0 x0)]) fun d1 =>
  ob (dBin .lss d1 (.int .i64 0)) fun d2 =>
  ogd d2
   (some (.bool false))
   (ob (dLen (proj 2 x0)) fun d3 =>
   ob (dBin .neq d3 d1) fun d4 =>
   oif d4
    (some (.bool false))
    (ob (dBin .eql (proj 0 x0) (.int .i64 6)) fun d5 =>
    oif d5
     (ob (dBin .geq (proj 1 x0) (.int .i64 0)) fun d6 =>
     ogd d6
      (ob (dBin .leq (proj 1 x0) (.int .i64 1048576)) fun d7 =>
      some d7)
      (some (.bool false))
      none)
     (ob (dBin .neq (proj 1 x0) (.int .i64 0)) fun d8 =>
     oif d8
      (some (.bool false))
      (ob (dLen (proj 2 x0)) fun d9 =>
      P_typ_right_9h R (proj 2 x0) d9 (.int .i64 0)))))
   none) := evP_of [] (by kernel_rfl)
theorem eq_typ_right_9h (R : Orc) (t33 : DV) (t34 : DV) (t35 : DV) : P_typ_right_9h R t33 t34 t35 =
  (ob (dBin .lss t35 t34) fun d1 =>
  oif d1
   (ob (dIdx 3 t33 t35) fun d2 =>
   ob (R.p F_typ_right [(.agg [(proj 0 d2), (proj 1 d2), (proj 2 d2)])]) fun d3 =>
   ob (dUn .not d3) fun d4 =>
   oif d4
    (some (.bool false))
    (ob (dBin .add t35 (.int .i64 1)) fun d5 =>
    P_typ_right_9h R t33 t34 d5))
   (some (.bool true))) := headP_of [] (by kernel_rfl)
theorem call_typ_right (x0 : DV) {d : DV} (h : P_typ_right (run cfg) x0 = some d) : (run cfg).p F_typ_right [x0] = some d :=
  run_pure (fn := Tryz.f162) (c := code_typ_right) (by kernel_rfl) Tryz.func162 (by kernel_rfl) ((show _ = P_typ_right (run cfg) x0 by kernel_rfl).trans h)

/-! ### r08_Put -/
noncomputable def code_r08_Put : Code := Tryz.f173.body.getD .skip
noncomputable def P_r08_Put (R : Orc) (x0 : DV) (x1 : DV) : Option DV := evP cfg R fl_r08_Put (retP cfg.P Tryz.f173) [] code_r08_Put (initSt Tryz.f173 [(x0, .val), (x1, .val)] [])
noncomputable def P_r08_Put_3h (R : Orc) (t1 : DV) (t5 : DV) (b2 : DV) (b4_0 : DV) (b4_1 : DV) (b4_2 : DV) : Option DV := headP cfg R fl_r08_Put (retP cfg.P Tryz.f173) [true, false, true, false, false, true, false] code_r08_Put ⟨spread .undef 54 0 [(1, t1), (5, t5)], spread .val 54 0 [(2, (.loc 2 0)), (4, (.loc 4 0))], spread none 54 0 [(2, some [((proj 0 b2), .val), ((proj 1 b2), .val), ((proj 2 b2), .val)]), (4, some [(b4_0, .val), (b4_1, .val), (b4_2, .val)])], []⟩
noncomputable def P_r08_Put_10h (R : Orc) (t1 : DV) (t7 : DV) (b2 : DV) (b4_0 : DV) (b4_1 : DV) (b4_2 : DV) (b6_0 : DV) (b6_1 : DV) (b6_2 : DV) : Option DV := headP cfg R fl_r08_Put (retP cfg.P Tryz.f173) [true, true, true, false, true, false] code_r08_Put ⟨spread .undef 54 0 [(1, t1), (7, t7)], spread .val 54 0 [(2, (.loc 2 0)), (4, (.loc 4 0)), (6, (.loc 6 0))], spread none 54 0 [(2, some [((proj 0 b2), .val), ((proj 1 b2), .val), ((proj 2 b2), .val)]), (4, some [(b4_0, .val), (b4_1, .val), (b4_2, .val)]), (6, some [(b6_0, .val), (b6_1, .val), (b6_2, .own)])], []⟩
theorem eq_r08_Put (R : Orc) (x0 : DV) (x1 : DV) : P_r08_Put R x0 x1 =
  (og (isAggN 3 x0) <|
  ob (dBin .eql (proj 0 x0) (.int .i64 6)) fun d1 =>
  oif d1
   (P_r08_Put_3h R x1 (.int .i64 0) x0 (.int .i64 0) (.int .i64 0) (.list 3 []))
   (og (isCell (proj 0 x0)) <|
   P_r08_Put_10h R x1 (.int .i64 0) x0 (.int .i64 0) (.int .i64 0) (.list 3 []) (proj 0 x0) (.int .i64 0) (.list 3 []))) := evP_of [] (by kernel_rfl)
theorem eq_r08_Put_3h (R : Orc) (t1 : DV) (t5 : DV) (b2 : DV) (b4_0 : DV) (b4_1 : DV) (b4_2 : DV) : P_r08_Put_3h R t1 t5 b2 b4_0 b4_1 b4_2 =
  (ob (dLen t1) fun d1 =>
  ob (dBin .lss t5 d1) fun d2 =>
  oif d2
   (ob (dIdx 4 t1 t5) fun d3 =>
   ob (dBin .eql (proj 0 d3) (proj 1 b2)) fun d4 =>
   oif d4
    (ob (dIdx 4 t1 t5) fun d5 =>
    some (.agg [(proj 1 d5), (proj 2 d5), (proj 3 d5)]))
    (ob (dBin .add t5 (.int .i64 1)) fun d6 =>
    P_r08_Put_3h R t1 d6 b2 b4_0 b4_1 b4_2))
   (some (.agg [(proj 0 b2), (proj 1 b2), (proj 2 b2)]))) := headP_of [] (by kernel_rfl)
theorem eq_r08_Put_10h (R : Orc) (t1 : DV) (t7 : DV) (b2 : DV) (b4_0 : DV) (b4_1 : DV) (b4_2 : DV) (b6_0 : DV) (b6_1 : DV) (b6_2 : DV) : P_r08_Put_10h R t1 t7 b2 b4_0 b4_1 b4_2 b6_0 b6_1 b6_2 =
  (ob (dLen (proj 2 b2)) fun d1 =>
  ob (dBin .lss t7 d1) fun d2 =>
  oif d2
   (ob (dIdx 3 (proj 2 b2) t7) fun d3 =>
   ob (R.p F_r08_Put [(.agg [(proj 0 d3), (proj 1 d3), (proj 2 d3)]), t1]) fun d4 =>
   og (isAggN 3 d4) <|
   ob (dApp 3 b6_2 (.list 3 [d4])) fun d5 =>
   ob (dBin .add t7 (.int .i64 1)) fun d6 =>
   P_r08_Put_10h R t1 d6 b2 b4_0 b4_1 b4_2 b6_0 b6_1 d5)
   (some (.agg [b6_0, b6_1, b6_2]))) := headP_of [] (by kernel_rfl)
theorem call_r08_Put (x0 : DV) (x1 : DV) {d : DV} (h : P_r08_Put (run cfg) x0 x1 = some d) : (run cfg).p F_r08_Put [x0, x1] = some d :=
  run_pure (fn := Tryz.f173) (c := code_r08_Put) (by kernel_rfl) Tryz.func173 (by kernel_rfl) ((show _ = P_r08_Put (run cfg) x0 x1 by kernel_rfl).trans h)

/-! ### r16_Binds -/
noncomputable def code_r16_Binds : Code := Tryz.f174.body.getD .skip
noncomputable def P_r16_Binds (R : Orc) (x0 : DV) (x1 : DV) : Option DV := evP cfg R fl_r16_Binds (retP cfg.P Tryz.f174) [] code_r16_Binds (initSt Tryz.f174 [(x0, .val), (x1, .val)] [])
noncomputable def P_r16_Binds_3h (R : Orc) (t0 : DV) (t1 : DV) (t5 : DV) (t6 : DV) : Option DV := headP cfg R fl_r16_Binds (retP cfg.P Tryz.f174) [true, true, false, true, false] code_r16_Binds ⟨spread .undef 26 0 [(0, t0), (1, t1), (5, t5), (6, t6)], spread .val 26 0 [(5, .own)], spread none 26 0 [], []⟩
theorem eq_r16_Binds (R : Orc) (x0 : DV) (x1 : DV) : P_r16_Binds R x0 x1 =
  (P_r16_Binds_3h R x0 x1 (.list 4 []) (.int .i64 0)) := evP_of [] (by kernel_rfl)
theorem eq_r16_Binds_3h (R : Orc) (t0 : DV) (t1 : DV) (t5 : DV) (t6 : DV) : P_r16_Binds_3h R t0 t1 t5 t6 =
  (ob (dLen t0) fun d1 =>
  ob (dBin .lss t6 d1) fun d2 =>
  oif d2
   (ob (dIdx 1 t0 t6) fun d3 =>
   og (isLeaf d3) <|
   ob (dIdx 3 t1 t6) fun d4 =>
   og (isCell d3) <|
   ob (dApp 4 t5 (.list 4 [(.agg [d3, (proj 0 d4), (proj 1 d4), (proj 2 d4)])])) fun d5 =>
   ob (dBin .add t6 (.int .i64 1)) fun d6 =>
   P_r16_Binds_3h R t0 t1 d5 d6)
   (some t5)) := headP_of [] (by kernel_rfl)
theorem call_r16_Binds (x0 : DV) (x1 : DV) {d : DV} (h : P_r16_Binds (run cfg) x0 x1 = some d) : (run cfg).p F_r16_Binds [x0, x1] = some d :=
  run_pure (fn := Tryz.f174) (c := code_r16_Binds) (by kernel_rfl) Tryz.func174 (by kernel_rfl) ((show _ = P_r16_Binds (run cfg) x0 x1 by kernel_rfl).trans h)

/-! ### r05_pat -/
noncomputable def code_r05_pat : Code := Tryz.f186.body.getD .skip
noncomputable def P_r05_pat (R : Orc) (x0 : DV) : Option DV := evP cfg R fl_r05_pat (retP cfg.P Tryz.f186) [] code_r05_pat (initSt Tryz.f186 [(x0, .val)] [])
noncomputable def P_r05_pat_25 (R : Orc) (t3 : DV) (b1 : DV) (b4_0 : DV) (b4_1 : DV) (b4_2 : DV) (b4_3 : DV) (b4_4 : DV) (b4_5 : DV) (b4_6 : DV) : Option DV := evP cfg R fl_r05_pat (retP cfg.P Tryz.f186) [true, true, true, true] code_r05_pat ⟨spread .undef 92 0 [(3, t3)], spread .val 92 0 [(1, (.loc 1 0)), (4, (.loc 4 0))], spread none 92 0 [(1, some [((proj 0 b1), .val), ((proj 1 b1), .val), ((proj 2 b1), .val), ((proj 3 b1), .val), ((proj 4 b1), .val), ((proj 5 b1), .val), ((proj 6 b1), .val)]), (4, some [(b4_0, .val), (b4_1, .val), (b4_2, .val), (b4_3, .val), (b4_4, .val), (b4_5, .val), (b4_6, .val)])], []⟩
noncomputable def P_r05_pat_28h (R : Orc) (t3 : DV) (t5 : DV) (b1 : DV) : Option DV := headP cfg R fl_r05_pat (retP cfg.P Tryz.f186) [true, true, true, true, true, false, true, false] code_r05_pat ⟨spread .undef 92 0 [(3, t3), (5, t5)], spread .val 92 0 [(1, (.loc 1 0))], spread none 92 0 [(1, some [((proj 0 b1), .val), ((proj 1 b1), .val), ((proj 2 b1), .val), ((proj 3 b1), .val), ((proj 4 b1), .val), ((proj 5 b1), .val), ((proj 6 b1), .val)])], []⟩
set_option maxRecDepth 100000 in
theorem eq_r05_pat (R : Orc) (x0 : DV) : P_r05_pat R x0 =
  (og (isAggN 7 x0) <|
  og (isCell (proj 0 x0)) <|
  ob (dBin .eql (proj 0 x0) (.int .i64 1)) fun d1 =>
  oif d1
   (P_r05_pat_25 R (.int .i64 0) x0 (proj 0 x0) (.int .i64 0) (.int .i64 0) (.str ⟨#[]⟩) (.int .i64 0) (.str ⟨#[]⟩) (.list 7 []))
   (ob (dBin .eql (proj 0 x0) (.int .i64 6)) fun d2 =>
   oif d2
    (P_r05_pat_25 R (.int .i64 0) x0 (proj 0 x0) (.int .i64 0) (.int .i64 0) (.str ⟨#[]⟩) (.int .i64 0) (.str ⟨#[]⟩) (.list 7 []))
    (ob (dBin .eql (proj 0 x0) (.int .i64 8)) fun d3 =>
    oif d3
     (P_r05_pat_25 R (.int .i64 0) x0 (proj 0 x0) (.int .i64 0) (.int .i64 0) (.str ⟨#[]⟩) (.int .i64 0) (.str ⟨#[]⟩) (.list 7 []))
     (ob (dBin .eql (proj 0 x0) (.int .i64 2)) fun d4 =>
     oif d4
      (og (isCell (proj 3 x0)) <|
      ob (R.p F_r01_Name [(proj 3 x0)]) fun d5 =>
      ob (dUn .not d5) fun d6 =>
      oif d6
       (some (.bool false))
       (P_r05_pat_25 R (.int .i64 0) x0 (proj 0 x0) (.int .i64 0) (.int .i64 0) (proj 3 x0) (.int .i64 0) (.str ⟨#[]⟩) (.list 7 [])))
      (ob (dBin .eql (proj 0 x0) (.int .i64 3)) fun d7 =>
      oif d7
       (og (isCell (proj 4 x0)) <|
       P_r05_pat_25 R (.int .i64 0) x0 (proj 0 x0) (.int .i64 0) (.int .i64 0) (.str ⟨#[]⟩) (proj 4 x0) (.str ⟨#[]⟩) (.list 7 []))
       (ob (dBin .eql (proj 0 x0) (.int .i64 4)) fun d8 =>
       oif d8
        (og (isCell (proj 4 x0)) <|
        ob (dBin .lss (proj 4 x0) (.int .i64 0)) fun d9 =>
        ogd d9
         (some (.bool false))
         (ob (dBin .gtr (proj 4 x0) (.int .i64 1)) fun d10 =>
         oif d10
          (some (.bool false))
          (P_r05_pat_25 R (.int .i64 0) x0 (proj 0 x0) (.int .i64 0) (.int .i64 0) (.str ⟨#[]⟩) (proj 4 x0) (.str ⟨#[]⟩) (.list 7 [])))
         none)
        (ob (dBin .eql (proj 0 x0) (.int .i64 5)) fun d11 =>
        oif d11
         (og (isCell (proj 5 x0)) <|
         ob (dLenS (proj 5 x0)) fun d12 =>
         ob (dBin .gtr d12 (.int .i64 200)) fun d13 =>
         oif d13
          (some (.bool false))
          (P_r05_pat_25 R (.int .i64 0) x0 (proj 0 x0) (.int .i64 0) (.int .i64 0) (.str ⟨#[]⟩) (.int .i64 0) (proj 5 x0) (.list 7 [])))
         (ob (dBin .eql (proj 0 x0) (.int .i64 7)) fun d14 =>
         oif d14
          (P_r05_pat_25 R (.int .i64 2) x0 (proj 0 x0) (.int .i64 0) (.int .i64 0) (.str ⟨#[]⟩) (.int .i64 0) (.str ⟨#[]⟩) (.list 7 []))
          (ob (dBin .eql (proj 0 x0) (.int .i64 9)) fun d15 =>
          oif d15
           (P_r05_pat_25 R (.int .i64 2) x0 (proj 0 x0) (.int .i64 0) (.int .i64 0) (.str ⟨#[]⟩) (.int .i64 0) (.str ⟨#[]⟩) (.list 7 []))
           (some (.bool false))))))))))) := evP_of [25] (by kernel_rfl)
set_option maxRecDepth 100000 in
theorem eq_r05_pat_25 (R : Orc) (t3 : DV) (b1 : DV) (b4_0 : DV) (b4_1 : DV) (b4_2 : DV) (b4_3 : DV) (b4_4 : DV) (b4_5 : DV) (b4_6 : DV) : P_r05_pat_25 R t3 b1 b4_0 b4_1 b4_2 b4_3 b4_4 b4_5 b4_6 =
  (ob (dLen (proj 6 b1)) fun d1 =>
  ob (dBin .neq d1 t3) fun d2 =>
  ogd d2
   (some (.bool false))
   (ob (dBin .neq (proj 3 b1) b4_3) fun d3 =>
   ogd d3
    (some (.bool false))
    (ob (dBin .neq (proj 4 b1) b4_4) fun d4 =>
    ogd d4
     (some (.bool false))
     (ob (dBin .neq (proj 5 b1) b4_5) fun d5 =>
     oif d5
      (some (.bool false))
      (P_r05_pat_28h R t3 (.int .i64 0) b1))
     none)
    none)
   none) := evP_of [25] (by kernel_rfl)
theorem eq_r05_pat_28h (R : Orc) (t3 : DV) (t5 : DV) (b1 : DV) : P_r05_pat_28h R t3 t5 b1 =
  (ob (dBin .lss t5 t3) fun d1 =>
  oif d1
   (ob (dIdx 7 (proj 6 b1) t5) fun d2 =>
   ob (R.p F_r05_pat [(.agg [(proj 0 d2), (proj 1 d2), (proj 2 d2), (proj 3 d2), (proj 4 d2), (proj 5 d2), (proj 6 d2)])]) fun d3 =>
   ob (dUn .not d3) fun d4 =>
   oif d4
    (some (.bool false))
    (ob (dBin .add t5 (.int .i64 1)) fun d5 =>
    P_r05_pat_28h R t3 d5 b1))
   (some (.bool true))) := headP_of [25] (by kernel_rfl)
theorem call_r05_pat (x0 : DV) {d : DV} (h : P_r05_pat (run cfg) x0 = some d) : (run cfg).p F_r05_pat [x0] = some d :=
  run_pure (fn := Tryz.f186) (c := code_r05_pat) (by kernel_rfl) Tryz.func186 (by kernel_rfl) ((show _ = P_r05_pat (run cfg) x0 by kernel_rfl).trans h)

/-! ### r05_Has -/
noncomputable def code_r05_Has : Code := Tryz.f187.body.getD .skip
noncomputable def P_r05_Has (R : Orc) (x0 : DV) (x1 : DV) : Option DV := evP cfg R fl_r05_Has (retP cfg.P Tryz.f187) [] code_r05_Has (initSt Tryz.f187 [(x0, .val), (x1, .val)] [])
noncomputable def P_r05_Has_2h (R : Orc) (t0 : DV) (t1 : DV) (t5 : DV) : Option DV := headP cfg R fl_r05_Has (retP cfg.P Tryz.f187) [true, false, true, false] code_r05_Has ⟨spread .undef 18 0 [(0, t0), (1, t1), (5, t5)], spread .val 18 0 [], spread none 18 0 [], []⟩
theorem eq_r05_Has (R : Orc) (x0 : DV) (x1 : DV) : P_r05_Has R x0 x1 =
  (P_r05_Has_2h R x0 x1 (.int .i64 0)) := evP_of [] (by kernel_rfl)
theorem eq_r05_Has_2h (R : Orc) (t0 : DV) (t1 : DV) (t5 : DV) : P_r05_Has_2h R t0 t1 t5 =
  (ob (dLen t0) fun d1 =>
  ob (dBin .lss t5 d1) fun d2 =>
  oif d2
   (ob (dIdx 1 t0 t5) fun d3 =>
   og (isLeaf d3) <|
   ob (dBin .eql d3 t1) fun d4 =>
   oif d4
    (some (.bool true))
    (ob (dBin .add t5 (.int .i64 1)) fun d5 =>
    P_r05_Has_2h R t0 t1 d5))
   (some (.bool false))) := headP_of [] (by kernel_rfl)
theorem call_r05_Has (x0 : DV) (x1 : DV) {d : DV} (h : P_r05_Has (run cfg) x0 x1 = some d) : (run cfg).p F_r05_Has [x0, x1] = some d :=
  run_pure (fn := Tryz.f187) (c := code_r05_Has) (by kernel_rfl) Tryz.func187 (by kernel_rfl) ((show _ = P_r05_Has (run cfg) x0 x1 by kernel_rfl).trans h)

/-! ### r03_SameAll -/
noncomputable def code_r03_SameAll : Code := Tryz.f192.body.getD .skip
noncomputable def P_r03_SameAll (R : Orc) (x0 : DV) (x1 : DV) : Option DV := evP cfg R fl_r03_SameAll (retP cfg.P Tryz.f192) [] code_r03_SameAll (initSt Tryz.f192 [(x0, .val), (x1, .val)] [])
noncomputable def P_r03_SameAll_4h (R : Orc) (t0 : DV) (t1 : DV) (t5 : DV) : Option DV := headP cfg R fl_r03_SameAll (retP cfg.P Tryz.f192) [true, true, false, true, false] code_r03_SameAll ⟨spread .undef 27 0 [(0, t0), (1, t1), (5, t5)], spread .val 27 0 [], spread none 27 0 [], []⟩
theorem eq_r03_SameAll (R : Orc) (x0 : DV) (x1 : DV) : P_r03_SameAll R x0 x1 =
  (ob (dLen x0) fun d1 =>
  ob (dLen x1) fun d2 =>
  ob (dBin .neq d1 d2) fun d3 =>
  oif d3
   (some (.bool false))
   (P_r03_SameAll_4h R x0 x1 (.int .i64 0))) := evP_of [] (by kernel_rfl)
theorem eq_r03_SameAll_4h (R : Orc) (t0 : DV) (t1 : DV) (t5 : DV) : P_r03_SameAll_4h R t0 t1 t5 =
  (ob (dLen t0) fun d1 =>
  ob (dBin .lss t5 d1) fun d2 =>
  oif d2
   (ob (dIdx 3 t0 t5) fun d3 =>
   ob (dIdx 3 t1 t5) fun d4 =>
   ob (R.p F_r03_Same [(.agg [(proj 0 d3), (proj 1 d3), (proj 2 d3)]), (.agg [(proj 0 d4), (proj 1 d4), (proj 2 d4)])]) fun d5 =>
   ob (dUn .not d5) fun d6 =>
   oif d6
    (some (.bool false))
    (ob (dBin .add t5 (.int .i64 1)) fun d7 =>
    P_r03_SameAll_4h R t0 t1 d7))
   (some (.bool true))) := headP_of [] (by kernel_rfl)
theorem call_r03_SameAll (x0 : DV) (x1 : DV) {d : DV} (h : P_r03_SameAll (run cfg) x0 x1 = some d) : (run cfg).p F_r03_SameAll [x0, x1] = some d :=
  run_pure (fn := Tryz.f192) (c := code_r03_SameAll) (by kernel_rfl) Tryz.func192 (by kernel_rfl) ((show _ = P_r03_SameAll (run cfg) x0 x1 by kernel_rfl).trans h)

/-! ### typ_Closed -/
noncomputable def code_typ_Closed : Code := Tryz.f194.body.getD .skip
noncomputable def P_typ_Closed (R : Orc) (x0 : DV) : Option DV := evP cfg R fl_typ_Closed (retP cfg.P Tryz.f194) [] code_typ_Closed (initSt Tryz.f194 [(x0, .val)] [])
theorem eq_typ_Closed (R : Orc) (x0 : DV) : P_typ_Closed R x0 =
  (og (isAggN 3 x0) <|
  ob (R.p F_typ_without [(.agg [(proj 0 x0), (proj 1 x0), (proj 2 x0)]), (.int .i64 6)]) fun d1 =>
  some d1) := evP_of [] (by kernel_rfl)
theorem call_typ_Closed (x0 : DV) {d : DV} (h : P_typ_Closed (run cfg) x0 = some d) : (run cfg).p F_typ_Closed [x0] = some d :=
  run_pure (fn := Tryz.f194) (c := code_typ_Closed) (by kernel_rfl) Tryz.func194 (by kernel_rfl) ((show _ = P_typ_Closed (run cfg) x0 by kernel_rfl).trans h)

/-! ### tree_onePat -/
noncomputable def code_tree_onePat : Code := Tryz.f196.body.getD .skip
noncomputable def P_tree_onePat (R : Orc) (x0 : DV) : Option DV := evP cfg R fl_tree_onePat (retP cfg.P Tryz.f196) [] code_tree_onePat (initSt Tryz.f196 [(x0, .val)] [])
noncomputable def P_tree_onePat_24 (R : Orc) (t4 : DV) (b1 : DV) (b3_0 : DV) (b3_1 : DV) (b3_2 : DV) (b3_3 : DV) (b3_4 : DV) (b3_5 : DV) (b3_6 : DV) : Option DV := evP cfg R fl_tree_onePat (retP cfg.P Tryz.f196) [true, true, true] code_tree_onePat ⟨spread .undef 83 0 [(4, t4)], spread .val 83 0 [(1, (.loc 1 0)), (3, (.loc 3 0))], spread none 83 0 [(1, some [((proj 0 b1), .val), ((proj 1 b1), .val), ((proj 2 b1), .val), ((proj 3 b1), .val), ((proj 4 b1), .val), ((proj 5 b1), .val), ((proj 6 b1), .val)]), (3, some [(b3_0, .val), (b3_1, .val), (b3_2, .val), (b3_3, .val), (b3_4, .val), (b3_5, .val), (b3_6, .val)])], []⟩
set_option maxRecDepth 100000 in
theorem eq_tree_onePat (R : Orc) (x0 : DV) : P_tree_onePat R x0 =
  (og (isAggN 7 x0) <|
  og (isCell (proj 0 x0)) <|
  og (isCell (proj 6 x0)) <|
  ob (dBin .eql (proj 0 x0) (.int .i64 1)) fun d1 =>
  oif d1
   (P_tree_onePat_24 R (.int .i64 0) x0 (proj 0 x0) (proj 1 x0) (proj 2 x0) (.str ⟨#[]⟩) (.int .i64 0) (.str ⟨#[]⟩) (proj 6 x0))
   (ob (dBin .eql (proj 0 x0) (.int .i64 6)) fun d2 =>
   oif d2
    (P_tree_onePat_24 R (.int .i64 0) x0 (proj 0 x0) (proj 1 x0) (proj 2 x0) (.str ⟨#[]⟩) (.int .i64 0) (.str ⟨#[]⟩) (proj 6 x0))
    (ob (dBin .eql (proj 0 x0) (.int .i64 8)) fun d3 =>
    oif d3
     (P_tree_onePat_24 R (.int .i64 0) x0 (proj 0 x0) (proj 1 x0) (proj 2 x0) (.str ⟨#[]⟩) (.int .i64 0) (.str ⟨#[]⟩) (proj 6 x0))
     (ob (dBin .eql (proj 0 x0) (.int .i64 2)) fun d4 =>
     oif d4
      (og (isCell (proj 3 x0)) <|
      ob (R.p F_word_Name [(proj 3 x0)]) fun d5 =>
      ob (dUn .not d5) fun d6 =>
      oif d6
       (some (.bool false))
       (P_tree_onePat_24 R (.int .i64 0) x0 (proj 0 x0) (proj 1 x0) (proj 2 x0) (proj 3 x0) (.int .i64 0) (.str ⟨#[]⟩) (proj 6 x0)))
      (ob (dBin .eql (proj 0 x0) (.int .i64 3)) fun d7 =>
      oif d7
       (og (isCell (proj 4 x0)) <|
       P_tree_onePat_24 R (.int .i64 0) x0 (proj 0 x0) (proj 1 x0) (proj 2 x0) (.str ⟨#[]⟩) (proj 4 x0) (.str ⟨#[]⟩) (proj 6 x0))
       (ob (dBin .eql (proj 0 x0) (.int .i64 4)) fun d8 =>
       oif d8
        (og (isCell (proj 4 x0)) <|
        ob (dBin .neq (proj 4 x0) (.int .i64 0)) fun d9 =>
        ogd d9
         (ob (dBin .neq (proj 4 x0) (.int .i64 1)) fun d10 =>
         oif d10
          (some (.bool false))
          (P_tree_onePat_24 R (.int .i64 0) x0 (proj 0 x0) (proj 1 x0) (proj 2 x0) (.str ⟨#[]⟩) (proj 4 x0) (.str ⟨#[]⟩) (proj 6 x0)))
         (P_tree_onePat_24 R (.int .i64 0) x0 (proj 0 x0) (proj 1 x0) (proj 2 x0) (.str ⟨#[]⟩) (proj 4 x0) (.str ⟨#[]⟩) (proj 6 x0))
         none)
        (ob (dBin .eql (proj 0 x0) (.int .i64 5)) fun d11 =>
        oif d11
         (og (isCell (proj 5 x0)) <|
         ob (dLenS (proj 5 x0)) fun d12 =>
         ob (dBin .gtr d12 (.int .i64 200)) fun d13 =>
         oif d13
          (some (.bool false))
          (P_tree_onePat_24 R (.int .i64 0) x0 (proj 0 x0) (proj 1 x0) (proj 2 x0) (.str ⟨#[]⟩) (.int .i64 0) (proj 5 x0) (proj 6 x0)))
         (ob (dBin .eql (proj 0 x0) (.int .i64 7)) fun d14 =>
         oif d14
          (P_tree_onePat_24 R (.int .i64 2) x0 (proj 0 x0) (proj 1 x0) (proj 2 x0) (.str ⟨#[]⟩) (.int .i64 0) (.str ⟨#[]⟩) (proj 6 x0))
          (ob (dBin .eql (proj 0 x0) (.int .i64 9)) fun d15 =>
          oif d15
           (P_tree_onePat_24 R (.int .i64 2) x0 (proj 0 x0) (proj 1 x0) (proj 2 x0) (.str ⟨#[]⟩) (.int .i64 0) (.str ⟨#[]⟩) (proj 6 x0))
           (some (.bool false))))))))))) := evP_of [24] (by kernel_rfl)
set_option maxRecDepth 100000 in
theorem eq_tree_onePat_24 (R : Orc) (t4 : DV) (b1 : DV) (b3_0 : DV) (b3_1 : DV) (b3_2 : DV) (b3_3 : DV) (b3_4 : DV) (b3_5 : DV) (b3_6 : DV) : P_tree_onePat_24 R t4 b1 b3_0 b3_1 b3_2 b3_3 b3_4 b3_5 b3_6 =
  (ob (dLen (proj 6 b1)) fun d1 =>
  ob (dBin .eql d1 t4) fun d2 =>
  ogd d2
   (ob (dBin .eql b3_3 (proj 3 b1)) fun d3 =>
   ogd d3
    (ob (dBin .eql b3_4 (proj 4 b1)) fun d4 =>
    ogd d4
     (ob (dBin .eql b3_5 (proj 5 b1)) fun d5 =>
     some d5)
     (some (.bool false))
     none)
    (some (.bool false))
    none)
   (some (.bool false))
   none) := evP_of [24] (by kernel_rfl)
theorem call_tree_onePat (x0 : DV) {d : DV} (h : P_tree_onePat (run cfg) x0 = some d) : (run cfg).p F_tree_onePat [x0] = some d :=
  run_pure (fn := Tryz.f196) (c := code_tree_onePat) (by kernel_rfl) Tryz.func196 (by kernel_rfl) ((show _ = P_tree_onePat (run cfg) x0 by kernel_rfl).trans h)

/-! ### word_Name -/
noncomputable def code_word_Name : Code := Tryz.f200.body.getD .skip
noncomputable def P_word_Name (R : Orc) (x0 : DV) : Option DV := evP cfg R fl_word_Name (retP cfg.P Tryz.f200) [] code_word_Name (initSt Tryz.f200 [(x0, .val)] [])
noncomputable def P_word_Name_4h (R : Orc) (t0 : DV) (t3 : DV) : Option DV := headP cfg R fl_word_Name (retP cfg.P Tryz.f200) [true, true, false, true, false] code_word_Name ⟨spread .undef 37 0 [(0, t0), (3, t3)], spread .val 37 0 [], spread none 37 0 [], []⟩
set_option maxRecDepth 100000 in
theorem eq_word_Name (R : Orc) (x0 : DV) : P_word_Name R x0 =
  (ob (dLenS x0) fun d1 =>
  ob (dBin .lss d1 (.int .i64 1)) fun d2 =>
  ogd d2
   (some (.bool false))
   (ob (dLenS x0) fun d3 =>
   ob (dBin .gtr d3 (.int .i64 32)) fun d4 =>
   ogd d4
    (some (.bool false))
    (ob (dStrIdx x0 (.int .i64 0)) fun d5 =>
    ob (dBin .lss d5 (.int .u8 97)) fun d6 =>
    ogd d6
     (some (.bool false))
     (ob (dStrIdx x0 (.int .i64 0)) fun d7 =>
     ob (dBin .gtr d7 (.int .u8 122)) fun d8 =>
     ogd d8
      (some (.bool false))
      (ob (R.p F_word_Key [x0]) fun d9 =>
      oif d9
       (some (.bool false))
       (P_word_Name_4h R x0 (.int .i64 1)))
      none)
     none)
    none)
   none) := evP_of [] (by kernel_rfl)
theorem eq_word_Name_4h (R : Orc) (t0 : DV) (t3 : DV) : P_word_Name_4h R t0 t3 =
  (ob (dLenS t0) fun d1 =>
  ob (dBin .lss t3 d1) fun d2 =>
  oif d2
   (ob (dStrIdx t0 t3) fun d3 =>
   ob (R.p F_word_inner [d3]) fun d4 =>
   ob (dUn .not d4) fun d5 =>
   oif d5
    (some (.bool false))
    (ob (dBin .add t3 (.int .i64 1)) fun d6 =>
    P_word_Name_4h R t0 d6))
   (some (.bool true))) := headP_of [] (by kernel_rfl)
theorem call_word_Name (x0 : DV) {d : DV} (h : P_word_Name (run cfg) x0 = some d) : (run cfg).p F_word_Name [x0] = some d :=
  run_pure (fn := Tryz.f200) (c := code_word_Name) (by kernel_rfl) Tryz.func200 (by kernel_rfl) ((show _ = P_word_Name (run cfg) x0 by kernel_rfl).trans h)

/-! ### r05_names -/
noncomputable def code_r05_names : Code := Tryz.f206.body.getD .skip
noncomputable def P_r05_names (R : Orc) (x0 : DV) (x1 : DV) (sg : List SObj) : Option (List DV × List SObj) := evP cfg R fl_r05_names (retR cfg.P Tryz.f206 sig_r05_names) [] code_r05_names (initSt Tryz.f206 [(x0, .val), (x1, .own)] sg)
noncomputable def P_r05_names_4h (R : Orc) (t1 : DV) (t5 : DV) (b2 : DV) (sg : List SObj) : Option (List DV × List SObj) := headP cfg R fl_r05_names (retR cfg.P Tryz.f206 sig_r05_names) [true, true, false, true, false] code_r05_names ⟨spread .undef 29 0 [(1, t1), (5, t5)], spread .val 29 0 [(1, .own), (2, (.loc 2 0))], spread none 29 0 [(2, some [((proj 0 b2), .val), ((proj 1 b2), .val), ((proj 2 b2), .val), ((proj 3 b2), .val), ((proj 4 b2), .val), ((proj 5 b2), .val), ((proj 6 b2), .val)])], sg⟩
theorem eq_r05_names (R : Orc) (x0 : DV) (x1 : DV) (sg : List SObj) : P_r05_names R x0 x1 sg =
  (og (isAggN 7 x0) <|
  ob (dBin .eql (proj 0 x0) (.int .i64 2)) fun d1 =>
  oif d1
   (og (isCell (proj 3 x0)) <|
   ob (dApp 1 x1 (.list 1 [(proj 3 x0)])) fun d2 =>
   P_r05_names_4h R d2 (.int .i64 0) x0 sg)
   (P_r05_names_4h R x1 (.int .i64 0) x0 sg)) := evP_of [] (by kernel_rfl)
theorem eq_r05_names_4h (R : Orc) (t1 : DV) (t5 : DV) (b2 : DV) (sg : List SObj) : P_r05_names_4h R t1 t5 b2 sg =
  (ob (dLen (proj 6 b2)) fun d1 =>
  ob (dBin .lss t5 d1) fun d2 =>
  oif d2
   (ob (dIdx 7 (proj 6 b2) t5) fun d3 =>
   ob (R.r F_r05_names [((.agg [(proj 0 d3), (proj 1 d3), (proj 2 d3), (proj 3 d3), (proj 4 d3), (proj 5 d3), (proj 6 d3)]), .val), (t1, .own)] sg) fun q4 =>
   ob (dBin .add t5 (.int .i64 1)) fun d5 =>
   P_r05_names_4h R (q4.1.getD 0 .undef) d5 b2 q4.2)
   (some ([t1], sg))) := headP_of [] (by kernel_rfl)
theorem call_r05_names (x0 : DV) (x1 : DV) (sg : List SObj) {q : List DV × List SObj} (h : P_r05_names (run cfg) x0 x1 sg = some q) : (run cfg).r F_r05_names [(x0, .val), (x1, .own)] sg = some q :=
  run_raw (s := sig_r05_names) (fn := Tryz.f206) (c := code_r05_names) (by kernel_rfl) Tryz.func206 (by kernel_rfl) ((show _ = P_r05_names (run cfg) x0 x1 sg by kernel_rfl).trans h)

/-! ### typ_Vars -/
noncomputable def code_typ_Vars : Code := Tryz.f207.body.getD .skip
noncomputable def P_typ_Vars (R : Orc) (x0 : DV) : Option DV := evP cfg R fl_typ_Vars (retP cfg.P Tryz.f207) [] code_typ_Vars (initSt Tryz.f207 [(x0, .val)] [])
theorem eq_typ_Vars (R : Orc) (x0 : DV) : P_typ_Vars R x0 =
  (og (isAggN 3 x0) <|
  ob (R.r F_typ_vars [((.agg [(proj 0 x0), (proj 1 x0), (proj 2 x0)]), .val), (.undef, (.map 0)), ((.list 1 []), .own)] [.map false []]) fun q1 =>
  some (q1.1.getD 0 .undef)) := evP_of [] (by kernel_rfl)
theorem call_typ_Vars (x0 : DV) {d : DV} (h : P_typ_Vars (run cfg) x0 = some d) : (run cfg).p F_typ_Vars [x0] = some d :=
  run_pure (fn := Tryz.f207) (c := code_typ_Vars) (by kernel_rfl) Tryz.func207 (by kernel_rfl) ((show _ = P_typ_Vars (run cfg) x0 by kernel_rfl).trans h)

/-! ### check_scope_takes -/
noncomputable def code_check_scope_takes : Code := Tryz.f208.body.getD .skip
noncomputable def P_check_scope_takes (R : Orc) (x0 : Nat) (x1 : DV) (sg : List SObj) : Option (List DV × List SObj) := evP cfg R fl_check_scope_takes (retR cfg.P Tryz.f208 sig_check_scope_takes) [] code_check_scope_takes (initSt Tryz.f208 [(.undef, (.map x0)), (x1, .val)] sg)
noncomputable def P_check_scope_takes_2h (R : Orc) (t0i : Nat) (t1 : DV) (t7 : DV) (t8 : DV) (t9 : DV) (sg : List SObj) : Option (List DV × List SObj) := headP cfg R fl_check_scope_takes (retR cfg.P Tryz.f208 sig_check_scope_takes) [true, false, true, false] code_check_scope_takes ⟨spread .undef 26 0 [(1, t1), (7, t7), (8, t8), (9, t9)], spread .val 26 0 [(0, (.map t0i))], spread none 26 0 [], sg⟩
theorem eq_check_scope_takes (R : Orc) (x0 : Nat) (x1 : DV) (sg : List SObj) : P_check_scope_takes R x0 x1 sg =
  (ob (dLen x1) fun d1 =>
  P_check_scope_takes_2h R x0 x1 x1 d1 (.int .i64 0) sg) := evP_of [] (by kernel_rfl)
theorem eq_check_scope_takes_2h (R : Orc) (t0i : Nat) (t1 : DV) (t7 : DV) (t8 : DV) (t9 : DV) (sg : List SObj) : P_check_scope_takes_2h R t0i t1 t7 t8 t9 sg =
  (ob (dBin .lss t9 t8) fun d1 =>
  oif d1
   (ob (dIdx 1 t7 t9) fun d2 =>
   og (isLeaf d2) <|
   og (isKey false d2 && true) <|
   ob (sgMap sg t0i) fun m3 =>
   og (m3.1 == false) <|
   ob (dBin .gtr ((mGet m3.2 d2).getD (.int .i64 0)) (.int .i64 0)) fun d4 =>
   ogd d4
    (some ([(.bool false)], sg))
    (ob (dSlice 1 t1 none (some t9)) fun d5 =>
    ob (R.p F_slices_Contains__int_int [d5, d2]) fun d6 =>
    oif d6
     (some ([(.bool false)], sg))
     (ob (dBin .add t9 (.int .i64 1)) fun d7 =>
     P_check_scope_takes_2h R t0i t1 t7 t8 d7 sg))
    none)
   (some ([(.bool true)], sg))) := headP_of [] (by kernel_rfl)
theorem call_check_scope_takes (x0 : Nat) (x1 : DV) (sg : List SObj) {q : List DV × List SObj} (h : P_check_scope_takes (run cfg) x0 x1 sg = some q) : (run cfg).r F_check_scope_takes [(.undef, (.map x0)), (x1, .val)] sg = some q :=
  run_raw (s := sig_check_scope_takes) (fn := Tryz.f208) (c := code_check_scope_takes) (by kernel_rfl) Tryz.func208 (by kernel_rfl) ((show _ = P_check_scope_takes (run cfg) x0 x1 sg by kernel_rfl).trans h)

/-! ### check_scope_enter -/
noncomputable def code_check_scope_enter : Code := Tryz.f209.body.getD .skip
noncomputable def P_check_scope_enter (R : Orc) (x0 : Nat) (x1 : DV) (x2 : DV) (sg : List SObj) : Option (List DV × List SObj) := evP cfg R fl_check_scope_enter (retR cfg.P Tryz.f209 sig_check_scope_enter) [] code_check_scope_enter (initSt Tryz.f209 [(.undef, (.map x0)), (x1, .val), (x2, .val)] sg)
noncomputable def P_check_scope_enter_1h (R : Orc) (t0i : Nat) (t2 : DV) (t8 : DV) (t9 : DV) (t10 : DV) (sg : List SObj) : Option (List DV × List SObj) := headP cfg R fl_check_scope_enter (retR cfg.P Tryz.f209 sig_check_scope_enter) [true, false] code_check_scope_enter ⟨spread .undef 20 0 [(2, t2), (8, t8), (9, t9), (10, t10)], spread .val 20 0 [(0, (.map t0i))], spread none 20 0 [], sg⟩
theorem eq_check_scope_enter (R : Orc) (x0 : Nat) (x1 : DV) (x2 : DV) (sg : List SObj) : P_check_scope_enter R x0 x1 x2 sg =
  (ob (dLen x1) fun d1 =>
  P_check_scope_enter_1h R x0 x2 x1 d1 (.int .i64 0) sg) := evP_of [] (by kernel_rfl)
theorem eq_check_scope_enter_1h (R : Orc) (t0i : Nat) (t2 : DV) (t8 : DV) (t9 : DV) (t10 : DV) (sg : List SObj) : P_check_scope_enter_1h R t0i t2 t8 t9 t10 sg =
  (ob (dBin .lss t10 t9) fun d1 =>
  oif d1
   (ob (dIdx 1 t8 t10) fun d2 =>
   og (isLeaf d2) <|
   og (isKey false d2 && true) <|
   ob (sgMap sg t0i) fun m3 =>
   og (m3.1 == false) <|
   ob (dBin .add ((mGet m3.2 d2).getD (.int .i64 0)) t2) fun d4 =>
   og (isKey false d2 && true && true) <|
   ob (sgMap sg t0i) fun m5 =>
   og (m5.1 == false) <|
   ob (dBin .add t10 (.int .i64 1)) fun d6 =>
   P_check_scope_enter_1h R t0i t2 t8 t9 d6 (sg.set t0i (.map false (mSet m5.2 d2 d4))))
   (some ([], sg))) := headP_of [] (by kernel_rfl)
theorem call_check_scope_enter (x0 : Nat) (x1 : DV) (x2 : DV) (sg : List SObj) {q : List DV × List SObj} (h : P_check_scope_enter (run cfg) x0 x1 x2 sg = some q) : (run cfg).r F_check_scope_enter [(.undef, (.map x0)), (x1, .val), (x2, .val)] sg = some q :=
  run_raw (s := sig_check_scope_enter) (fn := Tryz.f209) (c := code_check_scope_enter) (by kernel_rfl) Tryz.func209 (by kernel_rfl) ((show _ = P_check_scope_enter (run cfg) x0 x1 x2 sg by kernel_rfl).trans h)

/-! ### pats_Bind -/
noncomputable def code_pats_Bind : Code := Tryz.f210.body.getD .skip
noncomputable def P_pats_Bind (R : Orc) (x0 : DV) (x1 : DV) : Option DV := evP cfg R fl_pats_Bind (retP cfg.P Tryz.f210) [] code_pats_Bind (initSt Tryz.f210 [(x0, .val), (x1, .val)] [])
theorem eq_pats_Bind (R : Orc) (x0 : DV) (x1 : DV) : P_pats_Bind R x0 x1 =
  (og (isAggN 7 x0) <|
  og (isAggN 3 x1) <|
  ob (R.p F_tree_CheckPat [(.agg [(proj 0 x0), (proj 1 x0), (proj 2 x0), (proj 3 x0), (proj 4 x0), (proj 5 x0), (proj 6 x0)])]) fun d1 =>
  ob (dBin .neq d1 (.int .i64 0)) fun d2 =>
  ogd d2
   (some (.tup [(.list 4 []), (.int .i64 1)]))
   (ob (R.p F_typ_Check [(.agg [(proj 0 x1), (proj 1 x1), (proj 2 x1)])]) fun d3 =>
   ob (dBin .neq d3 (.int .i64 0)) fun d4 =>
   oif d4
    (some (.tup [(.list 4 []), (.int .i64 1)]))
    (ob (R.r F_pats_bind [((.agg [(proj 0 x0), (proj 1 x0), (proj 2 x0), (proj 3 x0), (proj 4 x0), (proj 5 x0), (proj 6 x0)]), .val), ((.agg [(proj 0 x1), (proj 1 x1), (proj 2 x1)]), .val), ((.list 4 []), .own)] []) fun q5 =>
    ob (dExt 0 (.tup q5.1)) fun d6 =>
    ob (dExt 1 (.tup q5.1)) fun d7 =>
    ob (dUn .not d7) fun d8 =>
    oif d8
     (some (.tup [(.list 4 []), (.int .i64 4)]))
     (some (.tup [d6, (.int .i64 0)]))))
   none) := evP_of [] (by kernel_rfl)
theorem call_pats_Bind (x0 : DV) (x1 : DV) {d : DV} (h : P_pats_Bind (run cfg) x0 x1 = some d) : (run cfg).p F_pats_Bind [x0, x1] = some d :=
  run_pure (fn := Tryz.f210) (c := code_pats_Bind) (by kernel_rfl) Tryz.func210 (by kernel_rfl) ((show _ = P_pats_Bind (run cfg) x0 x1 by kernel_rfl).trans h)

/-! ### agree_Agree -/
noncomputable def code_agree_Agree : Code := Tryz.f211.body.getD .skip
noncomputable def P_agree_Agree (R : Orc) (x0 : DV) (x1 : DV) : Option DV := evP cfg R fl_agree_Agree (retP cfg.P Tryz.f211) [] code_agree_Agree (initSt Tryz.f211 [(x0, .val), (x1, .val)] [])
theorem eq_agree_Agree (R : Orc) (x0 : DV) (x1 : DV) : P_agree_Agree R x0 x1 =
  (og (isAggN 3 x0) <|
  og (isAggN 3 x1) <|
  ob (R.p F_typ_Check [(.agg [(proj 0 x0), (proj 1 x0), (proj 2 x0)])]) fun d1 =>
  ob (dBin .eql d1 (.int .i64 0)) fun d2 =>
  ogd d2
   (ob (R.p F_typ_Check [(.agg [(proj 0 x1), (proj 1 x1), (proj 2 x1)])]) fun d3 =>
   ob (dBin .eql d3 (.int .i64 0)) fun d4 =>
   ogd d4
    (ob (R.p F_agree_agrees [(.agg [(proj 0 x0), (proj 1 x0), (proj 2 x0)]), (.agg [(proj 0 x1), (proj 1 x1), (proj 2 x1)])]) fun d5 =>
    some d5)
    (some (.bool false))
    none)
   (some (.bool false))
   none) := evP_of [] (by kernel_rfl)
theorem call_agree_Agree (x0 : DV) (x1 : DV) {d : DV} (h : P_agree_Agree (run cfg) x0 x1 = some d) : (run cfg).p F_agree_Agree [x0, x1] = some d :=
  run_pure (fn := Tryz.f211) (c := code_agree_Agree) (by kernel_rfl) Tryz.func211 (by kernel_rfl) ((show _ = P_agree_Agree (run cfg) x0 x1 by kernel_rfl).trans h)

/-! ### r01_lower -/
noncomputable def code_r01_lower : Code := Tryz.f212.body.getD .skip
noncomputable def P_r01_lower (R : Orc) (x0 : DV) : Option DV := evP cfg R fl_r01_lower (retP cfg.P Tryz.f212) [] code_r01_lower (initSt Tryz.f212 [(x0, .val)] [])
theorem eq_r01_lower (R : Orc) (x0 : DV) : P_r01_lower R x0 =
  (ob (dBin .geq x0 (.int .u8 97)) fun d1 =>
  ogd d1
   (ob (dBin .leq x0 (.int .u8 122)) fun d2 =>
   some d2)
   (some (.bool false))
   none) := evP_of [] (by kernel_rfl)
theorem call_r01_lower (x0 : DV) {d : DV} (h : P_r01_lower (run cfg) x0 = some d) : (run cfg).p F_r01_lower [x0] = some d :=
  run_pure (fn := Tryz.f212) (c := code_r01_lower) (by kernel_rfl) Tryz.func212 (by kernel_rfl) ((show _ = P_r01_lower (run cfg) x0 by kernel_rfl).trans h)

/-! ### r01_part -/
noncomputable def code_r01_part : Code := Tryz.f213.body.getD .skip
noncomputable def P_r01_part (R : Orc) (x0 : DV) : Option DV := evP cfg R fl_r01_part (retP cfg.P Tryz.f213) [] code_r01_part (initSt Tryz.f213 [(x0, .val)] [])
set_option maxRecDepth 100000 in
theorem eq_r01_part (R : Orc) (x0 : DV) : P_r01_part R x0 =
  (ob (R.p F_r01_lower [x0]) fun d1 =>
  ogd d1
   (some (.bool true))
   (ob (R.p F_r01_digit [x0]) fun d2 =>
   ogd d2
    (some (.bool true))
    (ob (dBin .geq x0 (.int .u8 65)) fun d3 =>
    ogd d3
     (ob (dBin .leq x0 (.int .u8 90)) fun d4 =>
     ogd d4
      (some (.bool true))
      (ob (dBin .eql x0 (.int .u8 95)) fun d5 =>
      ogd d5
       (some (.bool true))
       (ob (dBin .eql x0 (.int .u8 39)) fun d6 =>
       some d6)
       none)
      none)
     (ob (dBin .eql x0 (.int .u8 95)) fun d7 =>
     ogd d7
      (some (.bool true))
      (ob (dBin .eql x0 (.int .u8 39)) fun d8 =>
      some d8)
      none)
     none)
    none)
   none) := evP_of [] (by kernel_rfl)
theorem call_r01_part (x0 : DV) {d : DV} (h : P_r01_part (run cfg) x0 = some d) : (run cfg).p F_r01_part [x0] = some d :=
  run_pure (fn := Tryz.f213) (c := code_r01_part) (by kernel_rfl) Tryz.func213 (by kernel_rfl) ((show _ = P_r01_part (run cfg) x0 by kernel_rfl).trans h)

/-! ### r01_Key -/
noncomputable def code_r01_Key : Code := Tryz.f214.body.getD .skip
noncomputable def P_r01_Key (R : Orc) (x0 : DV) : Option DV := evP cfg R fl_r01_Key (retP cfg.P Tryz.f214) [] code_r01_Key (initSt Tryz.f214 [(x0, .val)] [])
noncomputable def P_r01_Key_2h (R : Orc) (t0 : DV) (t3 : DV) : Option DV := headP cfg R fl_r01_Key (retP cfg.P Tryz.f214) [true, false, true, false] code_r01_Key ⟨spread .undef 40 0 [(0, t0), (3, t3)], spread .val 40 0 [], spread none 40 0 [], []⟩
noncomputable def P_r01_Key_8h (R : Orc) (t0 : DV) (t4 : DV) (t5 : DV) : Option DV := headP cfg R fl_r01_Key (retP cfg.P Tryz.f214) [true, true, true, false, true, false] code_r01_Key ⟨spread .undef 40 0 [(0, t0), (4, t4), (5, t5)], spread .val 40 0 [], spread none 40 0 [], []⟩
theorem eq_r01_Key (R : Orc) (x0 : DV) : P_r01_Key R x0 =
  (P_r01_Key_2h R x0 (.int .i64 0)) := evP_of [] (by kernel_rfl)
theorem eq_r01_Key_2h (R : Orc) (t0 : DV) (t3 : DV) : P_r01_Key_2h R t0 t3 =
  (ob (dLenS t0) fun d1 =>
  ob (dBin .lss t3 d1) fun d2 =>
  oif d2
   (ob (dStrIdx t0 t3) fun d3 =>
   ob (R.p F_r01_lower [d3]) fun d4 =>
   ob (dUn .not d4) fun d5 =>
   oif d5
    (some (.bool false))
    (ob (dBin .add t3 (.int .i64 1)) fun d6 =>
    P_r01_Key_2h R t0 d6))
   (ob (dBin .add (.str ⟨#[32]⟩) t0) fun d7 =>
   ob (dBin .add d7 (.str ⟨#[32]⟩)) fun d8 =>
   P_r01_Key_8h R t0 d8 (.int .i64 0))) := headP_of [] (by kernel_rfl)
theorem eq_r01_Key_8h (R : Orc) (t0 : DV) (t4 : DV) (t5 : DV) : P_r01_Key_8h R t0 t4 t5 =
  (ob (dLenS t4) fun d1 =>
  ob (dBin .add t5 d1) fun d2 =>
  ob (dBin .leq d2 (.int .i64 81)) fun d3 =>
  oif d3
   (ob (dLenS t0) fun d4 =>
   ob (dBin .gtr d4 (.int .i64 0)) fun d5 =>
   ogd d5
    (ob (dLenS t4) fun d6 =>
    ob (dBin .add t5 d6) fun d7 =>
    ob (dSliceS (.str ⟨#[32, 108, 101, 116, 32, 114, 101, 99, 32, 105, 110, 32, 102, 117, 110, 32, 105, 102, 32, 116, 104, 101, 110, 32, 101, 108, 115, 101, 32, 109, 97, 116, 99, 104, 32, 119, 105, 116, 104, 32, 101, 110, 100, 32, 116, 114, 117, 101, 32, 102, 97, 108, 115, 101, 32, 105, 110, 116, 32, 98, 111, 111, 108, 32, 115, 116, 114, 105, 110, 103, 32, 117, 110, 105, 116, 32, 108, 105, 115, 116, 32]⟩) (some t5) (some d7)) fun d8 =>
    ob (dBin .eql d8 t4) fun d9 =>
    oif d9
     (some (.bool true))
     (ob (dBin .add t5 (.int .i64 1)) fun d10 =>
     P_r01_Key_8h R t0 t4 d10))
    (ob (dBin .add t5 (.int .i64 1)) fun d11 =>
    P_r01_Key_8h R t0 t4 d11)
    none)
   (some (.bool false))) := headP_of [] (by kernel_rfl)
theorem call_r01_Key (x0 : DV) {d : DV} (h : P_r01_Key (run cfg) x0 = some d) : (run cfg).p F_r01_Key [x0] = some d :=
  run_pure (fn := Tryz.f214) (c := code_r01_Key) (by kernel_rfl) Tryz.func214 (by kernel_rfl) ((show _ = P_r01_Key (run cfg) x0 by kernel_rfl).trans h)

/-! ### r16_Fits -/
noncomputable def code_r16_Fits : Code := Tryz.f215.body.getD .skip
noncomputable def P_r16_Fits (R : Orc) (x0 : DV) (x1 : DV) (x2 : DV) (sg : List SObj) : Option (List DV × List SObj) := evP cfg R fl_r16_Fits (retR cfg.P Tryz.f215 sig_r16_Fits) [] code_r16_Fits (initSt Tryz.f215 [(x0, .val), (x1, .val), (x2, .own)] sg)
noncomputable def P_r16_Fits_10 (R : Orc) (t2 : DV) (b3 : DV) (b4 : DV) (sg : List SObj) : Option (List DV × List SObj) := evP cfg R fl_r16_Fits (retR cfg.P Tryz.f215 sig_r16_Fits) [true, false, true, false, true, true, true, true, true, false] code_r16_Fits ⟨spread .undef 107 0 [(2, t2)], spread .val 107 0 [(2, .own), (3, (.loc 3 0)), (4, (.loc 4 0))], spread none 107 0 [(3, some [((proj 0 b3), .val), ((proj 1 b3), .val), ((proj 2 b3), .val), ((proj 3 b3), .val), ((proj 4 b3), .val), ((proj 5 b3), .val), ((proj 6 b3), .val)]), (4, some [((proj 0 b4), .val), ((proj 1 b4), .val), ((proj 2 b4), .val)])], sg⟩
set_option maxRecDepth 100000 in
theorem eq_r16_Fits (R : Orc) (x0 : DV) (x1 : DV) (x2 : DV) (sg : List SObj) : P_r16_Fits R x0 x1 x2 sg =
  (og (isAggN 7 x0) <|
  og (isAggN 3 x1) <|
  ob (dBin .eql (proj 0 x0) (.int .i64 1)) fun d1 =>
  oif d1
   (some ([x2, (.bool true)], sg))
   (ob (dBin .eql (proj 0 x0) (.int .i64 2)) fun d2 =>
   oif d2
    (og (isCell (proj 3 x0)) <|
    ob (dApp 4 x2 (.list 4 [(.agg [(proj 3 x0), (proj 0 x1), (proj 1 x1), (proj 2 x1)])])) fun d3 =>
    some ([d3, (.bool true)], sg))
    (ob (dBin .eql (proj 0 x0) (.int .i64 3)) fun d4 =>
    oif d4
     (P_r16_Fits_10 R x2 x0 x1 sg)
     (ob (dBin .eql (proj 0 x0) (.int .i64 4)) fun d5 =>
     oif d5
      (P_r16_Fits_10 R x2 x0 x1 sg)
      (ob (dBin .eql (proj 0 x0) (.int .i64 5)) fun d6 =>
      oif d6
       (P_r16_Fits_10 R x2 x0 x1 sg)
       (ob (dBin .eql (proj 0 x0) (.int .i64 6)) fun d7 =>
       oif d7
        (P_r16_Fits_10 R x2 x0 x1 sg)
        (ob (dBin .eql (proj 0 x0) (.int .i64 7)) fun d8 =>
        oif d8
         (ob (dBin .neq (proj 0 x1) (.int .i64 7)) fun d9 =>
         oif d9
          (some ([x2, (.bool false)], sg))
          (ob (dIdx 7 (proj 6 x0) (.int .i64 0)) fun d10 =>
          ob (dIdx 3 (proj 2 x1) (.int .i64 0)) fun d11 =>
          ob (R.r F_r16_Fits [((.agg [(proj 0 d10), (proj 1 d10), (proj 2 d10), (proj 3 d10), (proj 4 d10), (proj 5 d10), (proj 6 d10)]), .val), ((.agg [(proj 0 d11), (proj 1 d11), (proj 2 d11)]), .val), (x2, .own)] sg) fun q12 =>
          ob (dExt 0 (.tup q12.1)) fun d13 =>
          ob (dExt 1 (.tup q12.1)) fun d14 =>
          ob (dUn .not d14) fun d15 =>
          oif d15
           (some ([d13, (.bool false)], q12.2))
           (ob (dIdx 7 (proj 6 x0) (.int .i64 1)) fun d16 =>
           ob (dIdx 3 (proj 2 x1) (.int .i64 1)) fun d17 =>
           ob (R.r F_r16_Fits [((.agg [(proj 0 d16), (proj 1 d16), (proj 2 d16), (proj 3 d16), (proj 4 d16), (proj 5 d16), (proj 6 d16)]), .val), ((.agg [(proj 0 d17), (proj 1 d17), (proj 2 d17)]), .val), (d13, .own)] q12.2) fun q18 =>
           ob (dExt 0 (.tup q18.1)) fun d19 =>
           ob (dExt 1 (.tup q18.1)) fun d20 =>
           some ([d19, d20], q18.2))))
         (ob (dBin .eql (proj 0 x0) (.int .i64 8)) fun d21 =>
         oif d21
          (ob (dBin .eql (proj 0 x1) (.int .i64 8)) fun d22 =>
          some ([x2, d22], sg))
          (ob (dBin .neq (proj 0 x1) (.int .i64 8)) fun d23 =>
          oif d23
           (some ([x2, (.bool false)], sg))
           (ob (dIdx 7 (proj 6 x0) (.int .i64 0)) fun d24 =>
           ob (dIdx 3 (proj 2 x1) (.int .i64 0)) fun d25 =>
           ob (R.r F_r16_Fits [((.agg [(proj 0 d24), (proj 1 d24), (proj 2 d24), (proj 3 d24), (proj 4 d24), (proj 5 d24), (proj 6 d24)]), .val), ((.agg [(proj 0 d25), (proj 1 d25), (proj 2 d25)]), .val), (x2, .own)] sg) fun q26 =>
           ob (dExt 0 (.tup q26.1)) fun d27 =>
           ob (dExt 1 (.tup q26.1)) fun d28 =>
           ob (dUn .not d28) fun d29 =>
           oif d29
            (some ([d27, (.bool false)], q26.2))
            (ob (dIdx 7 (proj 6 x0) (.int .i64 1)) fun d30 =>
            ob (R.r F_r16_Fits [((.agg [(proj 0 d30), (proj 1 d30), (proj 2 d30), (proj 3 d30), (proj 4 d30), (proj 5 d30), (proj 6 d30)]), .val), ((.agg [(proj 0 x1), (proj 1 x1), (proj 2 x1)]), .val), (d27, .own)] q26.2) fun q31 =>
            ob (dExt 0 (.tup q31.1)) fun d32 =>
            ob (dExt 1 (.tup q31.1)) fun d33 =>
            some ([d32, d33], q31.2)))))))))))) := evP_of [10] (by kernel_rfl)
theorem eq_r16_Fits_10 (R : Orc) (t2 : DV) (b3 : DV) (b4 : DV) (sg : List SObj) : P_r16_Fits_10 R t2 b3 b4 sg =
  (ob (dBin .sub (proj 0 b3) (.int .i64 3)) fun d1 =>
  ob (dBin .add d1 (.int .i64 1)) fun d2 =>
  ob (dBin .eql (proj 0 b4) d2) fun d3 =>
  some ([t2, d3], sg)) := evP_of [10] (by kernel_rfl)
theorem call_r16_Fits (x0 : DV) (x1 : DV) (x2 : DV) (sg : List SObj) {q : List DV × List SObj} (h : P_r16_Fits (run cfg) x0 x1 x2 sg = some q) : (run cfg).r F_r16_Fits [(x0, .val), (x1, .val), (x2, .own)] sg = some q :=
  run_raw (s := sig_r16_Fits) (fn := Tryz.f215) (c := code_r16_Fits) (by kernel_rfl) Tryz.func215 (by kernel_rfl) ((show _ = P_r16_Fits (run cfg) x0 x1 x2 sg by kernel_rfl).trans h)

/-! ### r08_leaf -/
noncomputable def code_r08_leaf : Code := Tryz.f216.body.getD .skip
noncomputable def P_r08_leaf (R : Orc) (x0 : DV) (x1 : DV) : Option DV := evP cfg R fl_r08_leaf (retP cfg.P Tryz.f216) [] code_r08_leaf (initSt Tryz.f216 [(x0, .val), (x1, .val)] [])
theorem eq_r08_leaf (R : Orc) (x0 : DV) (x1 : DV) : P_r08_leaf R x0 x1 =
  (og (isAggN 3 x0) <|
  og (isAggN 3 x1) <|
  ob (dLen (proj 2 x0)) fun d1 =>
  ob (dBin .eql d1 (.int .i64 0)) fun d2 =>
  ogd d2
   (ob (dBin .eql (proj 0 x0) (proj 0 x1)) fun d3 =>
   ogd d3
    (ob (dBin .eql (proj 1 x0) (proj 1 x1)) fun d4 =>
    some d4)
    (some (.bool false))
    none)
   (some (.bool false))
   none) := evP_of [] (by kernel_rfl)
theorem call_r08_leaf (x0 : DV) (x1 : DV) {d : DV} (h : P_r08_leaf (run cfg) x0 x1 = some d) : (run cfg).p F_r08_leaf [x0, x1] = some d :=
  run_pure (fn := Tryz.f216) (c := code_r08_leaf) (by kernel_rfl) Tryz.func216 (by kernel_rfl) ((show _ = P_r08_leaf (run cfg) x0 x1 by kernel_rfl).trans h)

end Go.Su
