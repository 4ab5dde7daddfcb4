/-
  Equations of the program's functions: by program.
-/
import Derived.Test.YtgccmhlmdnimjaaGreatP5
namespace Go.Su
open Go.Proofs
set_option linter.unusedVariables false

/-! ### r08_like -/
noncomputable def code_r08_like : Code := Tryz.f217.body.getD .skip
noncomputable def P_r08_like (R : Orc) (x0 : DV) (x1 : DV) : Option DV := evP cfg R fl_r08_like (retP cfg.P Tryz.f217) [] code_r08_like (initSt Tryz.f217 [(x0, .val), (x1, .val)] [])
theorem eq_r08_like (R : Orc) (x0 : DV) (x1 : DV) : P_r08_like R x0 x1 =
  (og (isAggN 3 x0) <|
  og (isAggN 3 x1) <|
  ob (dLen (proj 2 x0)) fun d1 =>
  ob (dBin .gtr d1 (.int .i64 0)) fun d2 =>
  ogd d2
   (ob (dBin .eql (proj 0 x0) (proj 0 x1)) fun d3 =>
   some d3)
   (some (.bool false))
   none) := evP_of [] (by kernel_rfl)
theorem call_r08_like (x0 : DV) (x1 : DV) {d : DV} (h : P_r08_like (run cfg) x0 x1 = some d) : (run cfg).p F_r08_like [x0, x1] = some d :=
  run_pure (fn := Tryz.f217) (c := code_r08_like) (by kernel_rfl) Tryz.func217 (by kernel_rfl) ((show _ = P_r08_like (run cfg) x0 x1 by kernel_rfl).trans h)

/-! ### term_shapeOf -/
noncomputable def code_term_shapeOf : Code := Tryz.f218.body.getD .skip
noncomputable def P_term_shapeOf (R : Orc) (x0 : DV) : Option DV := evP cfg R fl_term_shapeOf (retP cfg.P Tryz.f218) [] code_term_shapeOf (initSt Tryz.f218 [(x0, .val)] [])
set_option maxRecDepth 100000 in
theorem eq_term_shapeOf (R : Orc) (x0 : DV) : P_term_shapeOf R x0 =
  (og (isAggN 20 x0) <|
  ob (dBin .eql (proj 0 x0) (.int .i64 1)) fun d1 =>
  oif d1
   (some (.tup [(.agg [(.bool true), (.bool false), (.bool false), (.bool false), (.bool false), (.bool false), (.bool false), (.bool true), (.bool false), (.bool false), (.bool false), (.bool false), (.int .i64 0)]), (.bool true)]))
   (ob (dBin .eql (proj 0 x0) (.int .i64 2)) fun d2 =>
   oif d2
    (some (.tup [(.agg [(.bool false), (.bool false), (.bool true), (.bool false), (.bool false), (.bool false), (.bool false), (.bool false), (.bool false), (.bool false), (.bool false), (.bool false), (.int .i64 0)]), (.bool true)]))
    (ob (dBin .eql (proj 0 x0) (.int .i64 3)) fun d3 =>
    oif d3
     (some (.tup [(.agg [(.bool false), (.bool false), (.bool true), (.bool false), (.bool false), (.bool false), (.bool false), (.bool false), (.bool false), (.bool false), (.bool false), (.bool false), (.int .i64 0)]), (.bool true)]))
     (ob (dBin .eql (proj 0 x0) (.int .i64 4)) fun d4 =>
     oif d4
      (some (.tup [(.agg [(.bool false), (.bool false), (.bool false), (.bool true), (.bool false), (.bool false), (.bool false), (.bool false), (.bool false), (.bool false), (.bool false), (.bool false), (.int .i64 0)]), (.bool true)]))
      (ob (dBin .eql (proj 0 x0) (.int .i64 5)) fun d5 =>
      oif d5
       (some (.tup [(.agg [(.bool false), (.bool false), (.bool false), (.bool false), (.bool false), (.bool false), (.bool false), (.bool false), (.bool false), (.bool false), (.bool false), (.bool false), (.int .i64 0)]), (.bool true)]))
       (ob (dBin .eql (proj 0 x0) (.int .i64 7)) fun d6 =>
       oif d6
        (some (.tup [(.agg [(.bool false), (.bool false), (.bool false), (.bool false), (.bool false), (.bool false), (.bool false), (.bool false), (.bool false), (.bool true), (.bool false), (.bool false), (.int .i64 0)]), (.bool true)]))
        (ob (dBin .eql (proj 0 x0) (.int .i64 6)) fun d7 =>
        oif d7
         (some (.tup [(.agg [(.bool false), (.bool false), (.bool false), (.bool false), (.bool false), (.bool false), (.bool false), (.bool false), (.bool false), (.bool false), (.bool false), (.bool false), (.int .i64 2)]), (.bool true)]))
         (ob (dBin .eql (proj 0 x0) (.int .i64 8)) fun d8 =>
         oif d8
          (some (.tup [(.agg [(.bool false), (.bool false), (.bool false), (.bool false), (.bool false), (.bool false), (.bool false), (.bool false), (.bool false), (.bool false), (.bool false), (.bool false), (.int .i64 2)]), (.bool true)]))
          (ob (dBin .eql (proj 0 x0) (.int .i64 10)) fun d9 =>
          oif d9
           (some (.tup [(.agg [(.bool false), (.bool false), (.bool false), (.bool false), (.bool false), (.bool false), (.bool false), (.bool false), (.bool false), (.bool false), (.bool false), (.bool false), (.int .i64 2)]), (.bool true)]))
           (ob (dBin .eql (proj 0 x0) (.int .i64 9)) fun d10 =>
           oif d10
            (some (.tup [(.agg [(.bool true), (.bool false), (.bool false), (.bool false), (.bool false), (.bool false), (.bool false), (.bool false), (.bool false), (.bool true), (.bool false), (.bool false), (.int .i64 1)]), (.bool true)]))
            (ob (dBin .eql (proj 0 x0) (.int .i64 11)) fun d11 =>
            oif d11
             (some (.tup [(.agg [(.bool true), (.bool false), (.bool false), (.bool false), (.bool false), (.bool false), (.bool true), (.bool false), (.bool false), (.bool false), (.bool false), (.bool false), (.int .i64 2)]), (.bool true)]))
             (ob (dBin .eql (proj 0 x0) (.int .i64 12)) fun d12 =>
             oif d12
              (some (.tup [(.agg [(.bool true), (.bool true), (.bool false), (.bool false), (.bool false), (.bool false), (.bool true), (.bool false), (.bool false), (.bool true), (.bool true), (.bool false), (.int .i64 2)]), (.bool true)]))
              (ob (dBin .eql (proj 0 x0) (.int .i64 13)) fun d13 =>
              oif d13
               (some (.tup [(.agg [(.bool false), (.bool false), (.bool false), (.bool false), (.bool false), (.bool false), (.bool false), (.bool false), (.bool false), (.bool false), (.bool false), (.bool false), (.int .i64 3)]), (.bool true)]))
               (ob (dBin .eql (proj 0 x0) (.int .i64 14)) fun d14 =>
               oif d14
                (ob (dLen (proj 18 x0)) fun d15 =>
                ob (dBin .add d15 (.int .i64 1)) fun d16 =>
                og (isCell d16) <|
                ob (dLen (proj 18 x0)) fun d17 =>
                ob (dBin .gtr d17 (.int .i64 0)) fun d18 =>
                some (.tup [(.agg [(.bool false), (.bool false), (.bool false), (.bool false), (.bool false), (.bool true), (.bool false), (.bool false), (.bool true), (.bool false), (.bool false), (.bool false), d16]), d18]))
                (ob (dBin .eql (proj 0 x0) (.int .i64 15)) fun d19 =>
                oif d19
                 (some (.tup [(.agg [(.bool false), (.bool false), (.bool false), (.bool false), (.bool true), (.bool true), (.bool false), (.bool false), (.bool false), (.bool false), (.bool false), (.bool false), (.int .i64 2)]), (.bool true)]))
                 (ob (dBin .eql (proj 0 x0) (.int .i64 16)) fun d20 =>
                 oif d20
                  (some (.tup [(.agg [(.bool false), (.bool false), (.bool false), (.bool false), (.bool false), (.bool false), (.bool false), (.bool false), (.bool false), (.bool true), (.bool true), (.bool true), (.int .i64 1)]), (.bool true)]))
                  (some (.tup [(.agg [(.bool false), (.bool false), (.bool false), (.bool false), (.bool false), (.bool false), (.bool false), (.bool false), (.bool false), (.bool false), (.bool false), (.bool false), (.int .i64 0)]), (.bool false)])))))))))))))))))) := evP_of [] (by kernel_rfl)
theorem call_term_shapeOf (x0 : DV) {d : DV} (h : P_term_shapeOf (run cfg) x0 = some d) : (run cfg).p F_term_shapeOf [x0] = some d :=
  run_pure (fn := Tryz.f218) (c := code_term_shapeOf) (by kernel_rfl) Tryz.func218 (by kernel_rfl) ((show _ = P_term_shapeOf (run cfg) x0 by kernel_rfl).trans h)

/-! ### term_named -/
noncomputable def code_term_named : Code := Tryz.f219.body.getD .skip
noncomputable def P_term_named (R : Orc) (x0 : DV) (x1 : DV) : Option DV := evP cfg R fl_term_named (retP cfg.P Tryz.f219) [] code_term_named (initSt Tryz.f219 [(x0, .val), (x1, .val)] [])
theorem eq_term_named (R : Orc) (x0 : DV) (x1 : DV) : P_term_named R x0 x1 =
  (oif x0
   (ob (R.p F_word_Name [x1]) fun d1 =>
   some d1)
   (ob (dBin .eql x1 (.str ⟨#[]⟩)) fun d2 =>
   some d2)) := evP_of [] (by kernel_rfl)
theorem call_term_named (x0 : DV) (x1 : DV) {d : DV} (h : P_term_named (run cfg) x0 x1 = some d) : (run cfg).p F_term_named [x0, x1] = some d :=
  run_pure (fn := Tryz.f219) (c := code_term_named) (by kernel_rfl) Tryz.func219 (by kernel_rfl) ((show _ = P_term_named (run cfg) x0 x1 by kernel_rfl).trans h)

/-! ### term_typed -/
noncomputable def code_term_typed : Code := Tryz.f220.body.getD .skip
noncomputable def P_term_typed (R : Orc) (x0 : DV) (x1 : DV) : Option DV := evP cfg R fl_term_typed (retP cfg.P Tryz.f220) [] code_term_typed (initSt Tryz.f220 [(x0, .val), (x1, .val)] [])
theorem eq_term_typed (R : Orc) (x0 : DV) (x1 : DV) : P_term_typed R x0 x1 =
  (og (isAggN 3 x1) <|
  oif x0
   (ob (R.p F_typ_Check [(.agg [(proj 0 x1), (proj 1 x1), (proj 2 x1)])]) fun d1 =>
   ob (dBin .eql d1 (.int .i64 0)) fun d2 =>
   some d2)
   (ob (R.p F_term_none [(.agg [(proj 0 x1), (proj 1 x1), (proj 2 x1)])]) fun d3 =>
   some d3)) := evP_of [] (by kernel_rfl)
theorem call_term_typed (x0 : DV) (x1 : DV) {d : DV} (h : P_term_typed (run cfg) x0 x1 = some d) : (run cfg).p F_term_typed [x0, x1] = some d :=
  run_pure (fn := Tryz.f220) (c := code_term_typed) (by kernel_rfl) Tryz.func220 (by kernel_rfl) ((show _ = P_term_typed (run cfg) x0 x1 by kernel_rfl).trans h)

/-! ### term_lists -/
noncomputable def code_term_lists : Code := Tryz.f221.body.getD .skip
noncomputable def P_term_lists (R : Orc) (x0 : DV) : Option DV := evP cfg R fl_term_lists (retP cfg.P Tryz.f221) [] code_term_lists (initSt Tryz.f221 [(x0, .val)] [])
noncomputable def P_term_lists_2h (R : Orc) (t10 : DV) (t11 : DV) (t12 : DV) (b1 : DV) : Option DV := headP cfg R fl_term_lists (retP cfg.P Tryz.f221) [true, false, true, false] code_term_lists ⟨spread .undef 45 0 [(10, t10), (11, t11), (12, t12)], spread .val 45 0 [(1, (.loc 1 0))], spread none 45 0 [(1, some [((proj 0 b1), .val), ((proj 1 b1), .val), ((proj 2 b1), .val), ((proj 3 b1), .val), ((proj 4 b1), .val), ((proj 5 b1), .val), ((proj 6 b1), .val), ((proj 7 b1), .val), ((proj 8 b1), .val), ((proj 9 b1), .val), ((proj 10 b1), .val), ((proj 11 b1), .val), ((proj 12 b1), .val), ((proj 13 b1), .val), ((proj 14 b1), .val), ((proj 15 b1), .val), ((proj 16 b1), .val), ((proj 17 b1), .val), ((proj 18 b1), .val), ((proj 19 b1), .val)])], []⟩
noncomputable def P_term_lists_8h (R : Orc) (t24 : DV) (t25 : DV) (t26 : DV) (b1 : DV) : Option DV := headP cfg R fl_term_lists (retP cfg.P Tryz.f221) [true, true, false, true, false] code_term_lists ⟨spread .undef 45 0 [(24, t24), (25, t25), (26, t26)], spread .val 45 0 [(1, (.loc 1 0))], spread none 45 0 [(1, some [((proj 0 b1), .val), ((proj 1 b1), .val), ((proj 2 b1), .val), ((proj 3 b1), .val), ((proj 4 b1), .val), ((proj 5 b1), .val), ((proj 6 b1), .val), ((proj 7 b1), .val), ((proj 8 b1), .val), ((proj 9 b1), .val), ((proj 10 b1), .val), ((proj 11 b1), .val), ((proj 12 b1), .val), ((proj 13 b1), .val), ((proj 14 b1), .val), ((proj 15 b1), .val), ((proj 16 b1), .val), ((proj 17 b1), .val), ((proj 18 b1), .val), ((proj 19 b1), .val)])], []⟩
noncomputable def P_term_lists_14h (R : Orc) (t35 : DV) (t36 : DV) (t37 : DV) : Option DV := headP cfg R fl_term_lists (retP cfg.P Tryz.f221) [true, true, true, false, true, false] code_term_lists ⟨spread .undef 45 0 [(35, t35), (36, t36), (37, t37)], spread .val 45 0 [], spread none 45 0 [], []⟩
theorem eq_term_lists (R : Orc) (x0 : DV) : P_term_lists R x0 =
  (og (isAggN 20 x0) <|
  ob (dLen (proj 10 x0)) fun d1 =>
  P_term_lists_2h R (proj 10 x0) d1 (.int .i64 0) x0) := evP_of [] (by kernel_rfl)
theorem eq_term_lists_2h (R : Orc) (t10 : DV) (t11 : DV) (t12 : DV) (b1 : DV) : P_term_lists_2h R t10 t11 t12 b1 =
  (ob (dBin .lss t12 t11) fun d1 =>
  oif d1
   (ob (dIdx 1 t10 t12) fun d2 =>
   og (isLeaf d2) <|
   ob (dBin .lss d2 (.int .i64 0)) fun d3 =>
   ogd d3
    (some (.bool false))
    (ob (dBin .gtr d2 (.int .i64 1048576)) fun d4 =>
    oif d4
     (some (.bool false))
     (ob (dBin .add t12 (.int .i64 1)) fun d5 =>
     P_term_lists_2h R t10 t11 d5 b1))
    none)
   (ob (dLen (proj 17 b1)) fun d6 =>
   P_term_lists_8h R (proj 17 b1) d6 (.int .i64 0) b1)) := headP_of [] (by kernel_rfl)
theorem eq_term_lists_8h (R : Orc) (t24 : DV) (t25 : DV) (t26 : DV) (b1 : DV) : P_term_lists_8h R t24 t25 t26 b1 =
  (ob (dBin .lss t26 t25) fun d1 =>
  oif d1
   (ob (dIdx 3 t24 t26) fun d2 =>
   ob (R.p F_typ_Check [(.agg [(proj 0 d2), (proj 1 d2), (proj 2 d2)])]) fun d3 =>
   ob (dBin .neq d3 (.int .i64 0)) fun d4 =>
   oif d4
    (some (.bool false))
    (ob (dBin .add t26 (.int .i64 1)) fun d5 =>
    P_term_lists_8h R t24 t25 d5 b1))
   (ob (dLen (proj 18 b1)) fun d6 =>
   P_term_lists_14h R (proj 18 b1) d6 (.int .i64 0))) := headP_of [] (by kernel_rfl)
theorem eq_term_lists_14h (R : Orc) (t35 : DV) (t36 : DV) (t37 : DV) : P_term_lists_14h R t35 t36 t37 =
  (ob (dBin .lss t37 t36) fun d1 =>
  oif d1
   (ob (dIdx 7 t35 t37) fun d2 =>
   ob (R.p F_tree_CheckPat [(.agg [(proj 0 d2), (proj 1 d2), (proj 2 d2), (proj 3 d2), (proj 4 d2), (proj 5 d2), (proj 6 d2)])]) fun d3 =>
   ob (dBin .neq d3 (.int .i64 0)) fun d4 =>
   oif d4
    (some (.bool false))
    (ob (dBin .add t37 (.int .i64 1)) fun d5 =>
    P_term_lists_14h R t35 t36 d5))
   (some (.bool true))) := headP_of [] (by kernel_rfl)
theorem call_term_lists (x0 : DV) {d : DV} (h : P_term_lists (run cfg) x0 = some d) : (run cfg).p F_term_lists [x0] = some d :=
  run_pure (fn := Tryz.f221) (c := code_term_lists) (by kernel_rfl) Tryz.func221 (by kernel_rfl) ((show _ = P_term_lists (run cfg) x0 by kernel_rfl).trans h)

/-! ### slices_Contains__int_int -/
noncomputable def code_slices_Contains__int_int : Code := Tryz.f225.body.getD .skip
noncomputable def P_slices_Contains__int_int (R : Orc) (x0 : DV) (x1 : DV) : Option DV := evP cfg R fl_slices_Contains__int_int (retP cfg.P Tryz.f225) [] code_slices_Contains__int_int (initSt Tryz.f225 [(x0, .val), (x1, .val)] [])
theorem eq_slices_Contains__int_int (R : Orc) (x0 : DV) (x1 : DV) : P_slices_Contains__int_int R x0 x1 =
  (ob (R.p F_slices_Index__int_int [x0, x1]) fun d1 =>
  ob (dBin .geq d1 (.int .i64 0)) fun d2 =>
  some d2) := evP_of [] (by kernel_rfl)
theorem call_slices_Contains__int_int (x0 : DV) (x1 : DV) {d : DV} (h : P_slices_Contains__int_int (run cfg) x0 x1 = some d) : (run cfg).p F_slices_Contains__int_int [x0, x1] = some d :=
  run_pure (fn := Tryz.f225) (c := code_slices_Contains__int_int) (by kernel_rfl) Tryz.func225 (by kernel_rfl) ((show _ = P_slices_Contains__int_int (run cfg) x0 x1 by kernel_rfl).trans h)

/-! ### typ_arity -/
noncomputable def code_typ_arity : Code := Tryz.f226.body.getD .skip
noncomputable def P_typ_arity (R : Orc) (x0 : DV) : Option DV := evP cfg R fl_typ_arity (retP cfg.P Tryz.f226) [] code_typ_arity (initSt Tryz.f226 [(x0, .val)] [])
theorem eq_typ_arity (R : Orc) (x0 : DV) : P_typ_arity R x0 =
  (ob (dBin .eql x0 (.int .i64 1)) fun d1 =>
  oif d1
   (some (.int .i64 0))
   (ob (dBin .eql x0 (.int .i64 2)) fun d2 =>
   oif d2
    (some (.int .i64 0))
    (ob (dBin .eql x0 (.int .i64 3)) fun d3 =>
    oif d3
     (some (.int .i64 0))
     (ob (dBin .eql x0 (.int .i64 4)) fun d4 =>
     oif d4
      (some (.int .i64 0))
      (ob (dBin .eql x0 (.int .i64 5)) fun d5 =>
      oif d5
       (some (.int .i64 0))
       (ob (dBin .eql x0 (.int .i64 6)) fun d6 =>
       oif d6
        (some (.int .i64 0))
        (ob (dBin .eql x0 (.int .i64 8)) fun d7 =>
        oif d7
         (some (.int .i64 1))
         (ob (dBin .eql x0 (.int .i64 7)) fun d8 =>
         oif d8
          (some (.int .i64 2))
          (ob (dBin .eql x0 (.int .i64 9)) fun d9 =>
          oif d9
           (some (.int .i64 2))
           (some (.int .i64 (-1)))))))))))) := evP_of [] (by kernel_rfl)
theorem call_typ_arity (x0 : DV) {d : DV} (h : P_typ_arity (run cfg) x0 = some d) : (run cfg).p F_typ_arity [x0] = some d :=
  run_pure (fn := Tryz.f226) (c := code_typ_arity) (by kernel_rfl) Tryz.func226 (by kernel_rfl) ((show _ = P_typ_arity (run cfg) x0 by kernel_rfl).trans h)

/-! ### typ_without -/
noncomputable def code_typ_without : Code := Tryz.f241.body.getD .skip
noncomputable def P_typ_without (R : Orc) (x0 : DV) (x1 : DV) : Option DV := evP cfg R fl_typ_without (retP cfg.P Tryz.f241) [] code_typ_without (initSt Tryz.f241 [(x0, .val), (x1, .val)] [])
noncomputable def P_typ_without_4h (R : Orc) (t1 : DV) (t12 : DV) (t13 : DV) (t14 : DV) : Option DV := headP cfg R fl_typ_without (retP cfg.P Tryz.f241) [true, true, false, true, false] code_typ_without ⟨spread .undef 23 0 [(1, t1), (12, t12), (13, t13), (14, t14)], spread .val 23 0 [], spread none 23 0 [], []⟩
theorem eq_typ_without (R : Orc) (x0 : DV) (x1 : DV) : P_typ_without R x0 x1 =
  (og (isAggN 3 x0) <|
  ob (dBin .eql (proj 0 x0) x1) fun d1 =>
  oif d1
   (some (.bool false))
   (ob (dLen (proj 2 x0)) fun d2 =>
   P_typ_without_4h R x1 (proj 2 x0) d2 (.int .i64 0))) := evP_of [] (by kernel_rfl)
theorem eq_typ_without_4h (R : Orc) (t1 : DV) (t12 : DV) (t13 : DV) (t14 : DV) : P_typ_without_4h R t1 t12 t13 t14 =
  (ob (dBin .lss t14 t13) fun d1 =>
  oif d1
   (ob (dIdx 3 t12 t14) fun d2 =>
   ob (R.p F_typ_without [(.agg [(proj 0 d2), (proj 1 d2), (proj 2 d2)]), t1]) fun d3 =>
   ob (dUn .not d3) fun d4 =>
   oif d4
    (some (.bool false))
    (ob (dBin .add t14 (.int .i64 1)) fun d5 =>
    P_typ_without_4h R t1 t12 t13 d5))
   (some (.bool true))) := headP_of [] (by kernel_rfl)
theorem call_typ_without (x0 : DV) (x1 : DV) {d : DV} (h : P_typ_without (run cfg) x0 x1 = some d) : (run cfg).p F_typ_without [x0, x1] = some d :=
  run_pure (fn := Tryz.f241) (c := code_typ_without) (by kernel_rfl) Tryz.func241 (by kernel_rfl) ((show _ = P_typ_without (run cfg) x0 x1 by kernel_rfl).trans h)

/-! ### word_Key -/
noncomputable def code_word_Key : Code := Tryz.f244.body.getD .skip
noncomputable def P_word_Key (R : Orc) (x0 : DV) : Option DV := evP cfg R fl_word_Key (retP cfg.P Tryz.f244) [] code_word_Key (initSt Tryz.f244 [(x0, .val)] [])
theorem eq_word_Key (R : Orc) (x0 : DV) : P_word_Key R x0 =
  (ob (dBin .eql x0 (.str ⟨#[108, 101, 116]⟩)) fun d1 =>
  oif d1
   (some (.bool true))
   (ob (dBin .eql x0 (.str ⟨#[114, 101, 99]⟩)) fun d2 =>
   oif d2
    (some (.bool true))
    (ob (dBin .eql x0 (.str ⟨#[105, 110]⟩)) fun d3 =>
    oif d3
     (some (.bool true))
     (ob (dBin .eql x0 (.str ⟨#[102, 117, 110]⟩)) fun d4 =>
     oif d4
      (some (.bool true))
      (ob (dBin .eql x0 (.str ⟨#[105, 102]⟩)) fun d5 =>
      oif d5
       (some (.bool true))
       (ob (dBin .eql x0 (.str ⟨#[116, 104, 101, 110]⟩)) fun d6 =>
       oif d6
        (some (.bool true))
        (ob (dBin .eql x0 (.str ⟨#[101, 108, 115, 101]⟩)) fun d7 =>
        oif d7
         (some (.bool true))
         (ob (dBin .eql x0 (.str ⟨#[109, 97, 116, 99, 104]⟩)) fun d8 =>
         oif d8
          (some (.bool true))
          (ob (dBin .eql x0 (.str ⟨#[119, 105, 116, 104]⟩)) fun d9 =>
          oif d9
           (some (.bool true))
           (ob (dBin .eql x0 (.str ⟨#[101, 110, 100]⟩)) fun d10 =>
           oif d10
            (some (.bool true))
            (ob (dBin .eql x0 (.str ⟨#[116, 114, 117, 101]⟩)) fun d11 =>
            oif d11
             (some (.bool true))
             (ob (dBin .eql x0 (.str ⟨#[102, 97, 108, 115, 101]⟩)) fun d12 =>
             oif d12
              (some (.bool true))
              (ob (dBin .eql x0 (.str ⟨#[105, 110, 116]⟩)) fun d13 =>
              oif d13
               (some (.bool true))
               (ob (dBin .eql x0 (.str ⟨#[98, 111, 111, 108]⟩)) fun d14 =>
               oif d14
                (some (.bool true))
                (ob (dBin .eql x0 (.str ⟨#[115, 116, 114, 105, 110, 103]⟩)) fun d15 =>
                oif d15
                 (some (.bool true))
                 (ob (dBin .eql x0 (.str ⟨#[117, 110, 105, 116]⟩)) fun d16 =>
                 oif d16
                  (some (.bool true))
                  (ob (dBin .eql x0 (.str ⟨#[108, 105, 115, 116]⟩)) fun d17 =>
                  oif d17
                   (some (.bool true))
                   (some (.bool false))))))))))))))))))) := evP_of [] (by kernel_rfl)
theorem call_word_Key (x0 : DV) {d : DV} (h : P_word_Key (run cfg) x0 = some d) : (run cfg).p F_word_Key [x0] = some d :=
  run_pure (fn := Tryz.f244) (c := code_word_Key) (by kernel_rfl) Tryz.func244 (by kernel_rfl) ((show _ = P_word_Key (run cfg) x0 by kernel_rfl).trans h)

/-! ### word_inner -/
noncomputable def code_word_inner : Code := Tryz.f245.body.getD .skip
noncomputable def P_word_inner (R : Orc) (x0 : DV) : Option DV := evP cfg R fl_word_inner (retP cfg.P Tryz.f245) [] code_word_inner (initSt Tryz.f245 [(x0, .val)] [])
set_option maxRecDepth 100000 in
theorem eq_word_inner (R : Orc) (x0 : DV) : P_word_inner R x0 =
  (ob (dBin .geq x0 (.int .u8 97)) fun d1 =>
  ogd d1
   (ob (dBin .leq x0 (.int .u8 122)) fun d2 =>
   ogd d2
    (some (.bool true))
    (ob (dBin .geq x0 (.int .u8 65)) fun d3 =>
    ogd d3
     (ob (dBin .leq x0 (.int .u8 90)) fun d4 =>
     ogd d4
      (some (.bool true))
      (ob (dBin .geq x0 (.int .u8 48)) fun d5 =>
      ogd d5
       (ob (dBin .leq x0 (.int .u8 57)) fun d6 =>
       ogd d6
        (some (.bool true))
        (ob (dBin .eql x0 (.int .u8 95)) fun d7 =>
        ogd d7
         (some (.bool true))
         (ob (dBin .eql x0 (.int .u8 39)) fun d8 =>
         some d8)
         none)
        none)
       (ob (dBin .eql x0 (.int .u8 95)) fun d9 =>
       ogd d9
        (some (.bool true))
        (ob (dBin .eql x0 (.int .u8 39)) fun d10 =>
        some d10)
        none)
       none)
      none)
     (ob (dBin .geq x0 (.int .u8 48)) fun d11 =>
     ogd d11
      (ob (dBin .leq x0 (.int .u8 57)) fun d12 =>
      ogd d12
       (some (.bool true))
       (ob (dBin .eql x0 (.int .u8 95)) fun d13 =>
       ogd d13
        (some (.bool true))
        (ob (dBin .eql x0 (.int .u8 39)) fun d14 =>
        some d14)
        none)
       none)
      (ob (dBin .eql x0 (.int .u8 95)) fun d15 =>
      ogd d15
       (some (.bool true))
       (ob (dBin .eql x0 (.int .u8 39)) fun d16 =>
       some d16)
       none)
      none)
     none)
    none)
   (ob (dBin .geq x0 (.int .u8 65)) fun d17 =>
   ogd d17
    (ob (dBin .leq x0 (.int .u8 90)) fun d18 =>
    ogd d18
     (some (.bool true))
     (ob (dBin .geq x0 (.int .u8 48)) fun d19 =>
     ogd d19
      (ob (dBin .leq x0 (.int .u8 57)) fun d20 =>
      ogd d20
       (some (.bool true))
       (ob (dBin .eql x0 (.int .u8 95)) fun d21 =>
       ogd d21
        (some (.bool true))
        (ob (dBin .eql x0 (.int .u8 39)) fun d22 =>
        some d22)
        none)
       none)
      (ob (dBin .eql x0 (.int .u8 95)) fun d23 =>
      ogd d23
       (some (.bool true))
       (ob (dBin .eql x0 (.int .u8 39)) fun d24 =>
       some d24)
       none)
      none)
     none)
    (ob (dBin .geq x0 (.int .u8 48)) fun d25 =>
    ogd d25
     (ob (dBin .leq x0 (.int .u8 57)) fun d26 =>
     ogd d26
      (some (.bool true))
      (ob (dBin .eql x0 (.int .u8 95)) fun d27 =>
      ogd d27
       (some (.bool true))
       (ob (dBin .eql x0 (.int .u8 39)) fun d28 =>
       some d28)
       none)
      none)
     (ob (dBin .eql x0 (.int .u8 95)) fun d29 =>
     ogd d29
      (some (.bool true))
      (ob (dBin .eql x0 (.int .u8 39)) fun d30 =>
      some d30)
      none)
     none)
    none)
   none) := evP_of [] (by kernel_rfl)
theorem call_word_inner (x0 : DV) {d : DV} (h : P_word_inner (run cfg) x0 = some d) : (run cfg).p F_word_inner [x0] = some d :=
  run_pure (fn := Tryz.f245) (c := code_word_inner) (by kernel_rfl) Tryz.func245 (by kernel_rfl) ((show _ = P_word_inner (run cfg) x0 by kernel_rfl).trans h)

/-! ### typ_vars -/
noncomputable def code_typ_vars : Code := Tryz.f257.body.getD .skip
noncomputable def P_typ_vars (R : Orc) (x0 : DV) (x1 : Nat) (x2 : DV) (sg : List SObj) : Option (List DV × List SObj) := evP cfg R fl_typ_vars (retR cfg.P Tryz.f257 sig_typ_vars) [] code_typ_vars (initSt Tryz.f257 [(x0, .val), (.undef, (.map x1)), (x2, .own)] sg)
noncomputable def P_typ_vars_5 (R : Orc) (t1i : Nat) (t2 : DV) (b3 : DV) (sg : List SObj) : Option (List DV × List SObj) := evP cfg R fl_typ_vars (retR cfg.P Tryz.f257 sig_typ_vars) [true, true] code_typ_vars ⟨spread .undef 40 0 [(2, t2)], spread .val 40 0 [(1, (.map t1i)), (2, .own), (3, (.loc 3 0))], spread none 40 0 [(3, some [((proj 0 b3), .val), ((proj 1 b3), .val), ((proj 2 b3), .val)])], sg⟩
noncomputable def P_typ_vars_6h (R : Orc) (t1i : Nat) (t2 : DV) (t28 : DV) (t29 : DV) (t30 : DV) (sg : List SObj) : Option (List DV × List SObj) := headP cfg R fl_typ_vars (retR cfg.P Tryz.f257 sig_typ_vars) [true, true, false, true, false] code_typ_vars ⟨spread .undef 40 0 [(2, t2), (28, t28), (29, t29), (30, t30)], spread .val 40 0 [(1, (.map t1i)), (2, .own)], spread none 40 0 [], sg⟩
theorem eq_typ_vars (R : Orc) (x0 : DV) (x1 : Nat) (x2 : DV) (sg : List SObj) : P_typ_vars R x0 x1 x2 sg =
  (og (isAggN 3 x0) <|
  ob (dBin .eql (proj 0 x0) (.int .i64 6)) fun d1 =>
  oif d1
   (og (isKey false (proj 1 x0) && true) <|
   ob (sgMap sg x1) fun m2 =>
   og (m2.1 == false) <|
   ob (dBin .eql ((mGet m2.2 (proj 1 x0)).getD (.int .i64 0)) (.int .i64 0)) fun d3 =>
   oif d3
    (og (isCell (proj 1 x0)) <|
    ob (dApp 1 x2 (.list 1 [(proj 1 x0)])) fun d4 =>
    og (isKey false (proj 1 x0) && true) <|
    ob (sgMap sg x1) fun m5 =>
    og (m5.1 == false) <|
    ob (dBin .add ((mGet m5.2 (proj 1 x0)).getD (.int .i64 0)) (.int .i64 1)) fun d6 =>
    og (isKey false (proj 1 x0) && true && true) <|
    ob (sgMap sg x1) fun m7 =>
    og (m7.1 == false) <|
    P_typ_vars_5 R x1 d4 x0 (sg.set x1 (.map false (mSet m7.2 (proj 1 x0) d6))))
    (og (isKey false (proj 1 x0) && true) <|
    ob (sgMap sg x1) fun m8 =>
    og (m8.1 == false) <|
    ob (dBin .add ((mGet m8.2 (proj 1 x0)).getD (.int .i64 0)) (.int .i64 1)) fun d9 =>
    og (isKey false (proj 1 x0) && true && true) <|
    ob (sgMap sg x1) fun m10 =>
    og (m10.1 == false) <|
    P_typ_vars_5 R x1 x2 x0 (sg.set x1 (.map false (mSet m10.2 (proj 1 x0) d9)))))
   (P_typ_vars_5 R x1 x2 x0 sg)) := evP_of [5] (by kernel_rfl)
theorem eq_typ_vars_5 (R : Orc) (t1i : Nat) (t2 : DV) (b3 : DV) (sg : List SObj) : P_typ_vars_5 R t1i t2 b3 sg =
  (ob (dLen (proj 2 b3)) fun d1 =>
  P_typ_vars_6h R t1i t2 (proj 2 b3) d1 (.int .i64 0) sg) := evP_of [5] (by kernel_rfl)
theorem eq_typ_vars_6h (R : Orc) (t1i : Nat) (t2 : DV) (t28 : DV) (t29 : DV) (t30 : DV) (sg : List SObj) : P_typ_vars_6h R t1i t2 t28 t29 t30 sg =
  (ob (dBin .lss t30 t29) fun d1 =>
  oif d1
   (ob (dIdx 3 t28 t30) fun d2 =>
   ob (R.r F_typ_vars [((.agg [(proj 0 d2), (proj 1 d2), (proj 2 d2)]), .val), (.undef, (.map t1i)), (t2, .own)] sg) fun q3 =>
   ob (dBin .add t30 (.int .i64 1)) fun d4 =>
   P_typ_vars_6h R t1i (q3.1.getD 0 .undef) t28 t29 d4 q3.2)
   (some ([t2], sg))) := headP_of [5] (by kernel_rfl)
theorem call_typ_vars (x0 : DV) (x1 : Nat) (x2 : DV) (sg : List SObj) {q : List DV × List SObj} (h : P_typ_vars (run cfg) x0 x1 x2 sg = some q) : (run cfg).r F_typ_vars [(x0, .val), (.undef, (.map x1)), (x2, .own)] sg = some q :=
  run_raw (s := sig_typ_vars) (fn := Tryz.f257) (c := code_typ_vars) (by kernel_rfl) Tryz.func257 (by kernel_rfl) ((show _ = P_typ_vars (run cfg) x0 x1 x2 sg by kernel_rfl).trans h)

/-! ### pats_bind -/
noncomputable def code_pats_bind : Code := Tryz.f258.body.getD .skip
noncomputable def P_pats_bind (R : Orc) (x0 : DV) (x1 : DV) (x2 : DV) (sg : List SObj) : Option (List DV × List SObj) := evP cfg R fl_pats_bind (retR cfg.P Tryz.f258 sig_pats_bind) [] code_pats_bind (initSt Tryz.f258 [(x0, .val), (x1, .val), (x2, .own)] sg)
noncomputable def P_pats_bind_16 (R : Orc) (t2 : DV) (t8 : DV) (b3 : DV) (sg : List SObj) : Option (List DV × List SObj) := evP cfg R fl_pats_bind (retR cfg.P Tryz.f258 sig_pats_bind) [true, true, true] code_pats_bind ⟨spread .undef 73 0 [(2, t2), (8, t8)], spread .val 73 0 [(2, .own), (3, (.loc 3 0))], spread none 73 0 [(3, some [((proj 0 b3), .val), ((proj 1 b3), .val), ((proj 2 b3), .val), ((proj 3 b3), .val), ((proj 4 b3), .val), ((proj 5 b3), .val), ((proj 6 b3), .val)])], sg⟩
noncomputable def P_pats_bind_17h (R : Orc) (t2 : DV) (t8 : DV) (t52 : DV) (t53 : DV) (t54 : DV) (sg : List SObj) : Option (List DV × List SObj) := headP cfg R fl_pats_bind (retR cfg.P Tryz.f258 sig_pats_bind) [true, true, true, false, true, false] code_pats_bind ⟨spread .undef 73 0 [(2, t2), (8, t8), (52, t52), (53, t53), (54, t54)], spread .val 73 0 [(2, .own)], spread none 73 0 [], sg⟩
theorem eq_pats_bind (R : Orc) (x0 : DV) (x1 : DV) (x2 : DV) (sg : List SObj) : P_pats_bind R x0 x1 x2 sg =
  (og (isAggN 7 x0) <|
  og (isAggN 3 x1) <|
  ob (dBin .eql (proj 0 x0) (.int .i64 1)) fun d1 =>
  oif d1
   (some ([x2, (.bool true)], sg))
   (ob (dBin .eql (proj 0 x0) (.int .i64 2)) fun d2 =>
   oif d2
    (og (isCell (proj 3 x0)) <|
    ob (dApp 4 x2 (.list 4 [(.agg [(proj 3 x0), (proj 0 x1), (proj 1 x1), (proj 2 x1)])])) fun d3 =>
    some ([d3, (.bool true)], sg))
    (ob (dBin .eql (proj 0 x0) (.int .i64 7)) fun d4 =>
    oif d4
     (ob (dBin .neq (proj 0 x1) (.int .i64 7)) fun d5 =>
     oif d5
      (some ([(.list 4 []), (.bool false)], sg))
      (P_pats_bind_16 R x2 (proj 2 x1) x0 sg))
     (ob (dBin .eql (proj 0 x0) (.int .i64 9)) fun d6 =>
     oif d6
      (ob (dBin .neq (proj 0 x1) (.int .i64 8)) fun d7 =>
      oif d7
       (some ([(.list 4 []), (.bool false)], sg))
       (ob (dIdx 3 (proj 2 x1) (.int .i64 0)) fun d8 =>
       P_pats_bind_16 R x2 (.list 3 [(.agg [(proj 0 d8), (proj 1 d8), (proj 2 d8)]), (.agg [(proj 0 x1), (proj 1 x1), (proj 2 x1)])]) x0 sg))
      (ob (R.p F_pats_leaf [(proj 0 x0)]) fun d9 =>
      ob (dBin .eql (proj 0 x1) d9) fun d10 =>
      some ([x2, d10], sg)))))) := evP_of [16] (by kernel_rfl)
theorem eq_pats_bind_16 (R : Orc) (t2 : DV) (t8 : DV) (b3 : DV) (sg : List SObj) : P_pats_bind_16 R t2 t8 b3 sg =
  (ob (dLen (proj 6 b3)) fun d1 =>
  P_pats_bind_17h R t2 t8 (proj 6 b3) d1 (.int .i64 0) sg) := evP_of [16] (by kernel_rfl)
theorem eq_pats_bind_17h (R : Orc) (t2 : DV) (t8 : DV) (t52 : DV) (t53 : DV) (t54 : DV) (sg : List SObj) : P_pats_bind_17h R t2 t8 t52 t53 t54 sg =
  (ob (dBin .lss t54 t53) fun d1 =>
  oif d1
   (ob (dIdx 7 t52 t54) fun d2 =>
   ob (dIdx 3 t8 t54) fun d3 =>
   ob (R.r F_pats_bind [((.agg [(proj 0 d2), (proj 1 d2), (proj 2 d2), (proj 3 d2), (proj 4 d2), (proj 5 d2), (proj 6 d2)]), .val), ((.agg [(proj 0 d3), (proj 1 d3), (proj 2 d3)]), .val), (t2, .own)] sg) fun q4 =>
   ob (dExt 0 (.tup q4.1)) fun d5 =>
   ob (dExt 1 (.tup q4.1)) fun d6 =>
   ob (dUn .not d6) fun d7 =>
   oif d7
    (some ([(.list 4 []), (.bool false)], q4.2))
    (ob (dBin .add t54 (.int .i64 1)) fun d8 =>
    P_pats_bind_17h R d5 t8 t52 t53 d8 q4.2))
   (some ([t2, (.bool true)], sg))) := headP_of [16] (by kernel_rfl)
theorem call_pats_bind (x0 : DV) (x1 : DV) (x2 : DV) (sg : List SObj) {q : List DV × List SObj} (h : P_pats_bind (run cfg) x0 x1 x2 sg = some q) : (run cfg).r F_pats_bind [(x0, .val), (x1, .val), (x2, .own)] sg = some q :=
  run_raw (s := sig_pats_bind) (fn := Tryz.f258) (c := code_pats_bind) (by kernel_rfl) Tryz.func258 (by kernel_rfl) ((show _ = P_pats_bind (run cfg) x0 x1 x2 sg by kernel_rfl).trans h)

/-! ### agree_agrees -/
noncomputable def code_agree_agrees : Code := Tryz.f259.body.getD .skip
noncomputable def P_agree_agrees (R : Orc) (x0 : DV) (x1 : DV) : Option DV := evP cfg R fl_agree_agrees (retP cfg.P Tryz.f259) [] code_agree_agrees (initSt Tryz.f259 [(x0, .val), (x1, .val)] [])
noncomputable def P_agree_agrees_8h (R : Orc) (t33 : DV) (t34 : DV) (t35 : DV) (b3 : DV) : Option DV := headP cfg R fl_agree_agrees (retP cfg.P Tryz.f259) [true, true, false, true, false] code_agree_agrees ⟨spread .undef 49 0 [(33, t33), (34, t34), (35, t35)], spread .val 49 0 [(3, (.loc 3 0))], spread none 49 0 [(3, some [((proj 0 b3), .val), ((proj 1 b3), .val), ((proj 2 b3), .val)])], []⟩
theorem eq_agree_agrees (R : Orc) (x0 : DV) (x1 : DV) : P_agree_agrees R x0 x1 =
  (og (isAggN 3 x0) <|
  og (isAggN 3 x1) <|
  ob (dBin .eql (proj 0 x0) (.int .i64 5)) fun d1 =>
  oif d1
   (ob (R.p F_typ_Closed [(.agg [(proj 0 x1), (proj 1 x1), (proj 2 x1)])]) fun d2 =>
   some d2)
   (ob (dBin .eql (proj 0 x1) (.int .i64 5)) fun d3 =>
   oif d3
    (ob (R.p F_typ_Closed [(.agg [(proj 0 x0), (proj 1 x0), (proj 2 x0)])]) fun d4 =>
    some d4)
    (ob (dBin .neq (proj 0 x0) (proj 0 x1)) fun d5 =>
    ogd d5
     (some (.bool false))
     (ob (dBin .neq (proj 1 x0) (proj 1 x1)) fun d6 =>
     oif d6
      (some (.bool false))
      (ob (dLen (proj 2 x0)) fun d7 =>
      P_agree_agrees_8h R (proj 2 x0) d7 (.int .i64 0) x1))
     none))) := evP_of [] (by kernel_rfl)
theorem eq_agree_agrees_8h (R : Orc) (t33 : DV) (t34 : DV) (t35 : DV) (b3 : DV) : P_agree_agrees_8h R t33 t34 t35 b3 =
  (ob (dBin .lss t35 t34) fun d1 =>
  oif d1
   (ob (dIdx 3 t33 t35) fun d2 =>
   ob (dIdx 3 (proj 2 b3) t35) fun d3 =>
   ob (R.p F_agree_agrees [(.agg [(proj 0 d2), (proj 1 d2), (proj 2 d2)]), (.agg [(proj 0 d3), (proj 1 d3), (proj 2 d3)])]) fun d4 =>
   ob (dUn .not d4) fun d5 =>
   oif d5
    (some (.bool false))
    (ob (dBin .add t35 (.int .i64 1)) fun d6 =>
    P_agree_agrees_8h R t33 t34 d6 b3))
   (some (.bool true))) := headP_of [] (by kernel_rfl)
theorem call_agree_agrees (x0 : DV) (x1 : DV) {d : DV} (h : P_agree_agrees (run cfg) x0 x1 = some d) : (run cfg).p F_agree_agrees [x0, x1] = some d :=
  run_pure (fn := Tryz.f259) (c := code_agree_agrees) (by kernel_rfl) Tryz.func259 (by kernel_rfl) ((show _ = P_agree_agrees (run cfg) x0 x1 by kernel_rfl).trans h)

/-! ### r01_digit -/
noncomputable def code_r01_digit : Code := Tryz.f260.body.getD .skip
noncomputable def P_r01_digit (R : Orc) (x0 : DV) : Option DV := evP cfg R fl_r01_digit (retP cfg.P Tryz.f260) [] code_r01_digit (initSt Tryz.f260 [(x0, .val)] [])
theorem eq_r01_digit (R : Orc) (x0 : DV) : P_r01_digit R x0 =
  (ob (dBin .geq x0 (.int .u8 48)) fun d1 =>
  ogd d1
   (ob (dBin .leq x0 (.int .u8 57)) fun d2 =>
   some d2)
   (some (.bool false))
   none) := evP_of [] (by kernel_rfl)
theorem call_r01_digit (x0 : DV) {d : DV} (h : P_r01_digit (run cfg) x0 = some d) : (run cfg).p F_r01_digit [x0] = some d :=
  run_pure (fn := Tryz.f260) (c := code_r01_digit) (by kernel_rfl) Tryz.func260 (by kernel_rfl) ((show _ = P_r01_digit (run cfg) x0 by kernel_rfl).trans h)

/-! ### term_none -/
noncomputable def code_term_none : Code := Tryz.f261.body.getD .skip
noncomputable def P_term_none (R : Orc) (x0 : DV) : Option DV := evP cfg R fl_term_none (retP cfg.P Tryz.f261) [] code_term_none (initSt Tryz.f261 [(x0, .val)] [])
theorem eq_term_none (R : Orc) (x0 : DV) : P_term_none R x0 =
  (og (isAggN 3 x0) <|
  ob (dBin .eql (proj 0 x0) (.int .i64 0)) fun d1 =>
  ogd d1
   (ob (dBin .eql (proj 1 x0) (.int .i64 0)) fun d2 =>
   ogd d2
    (ob (dLen (proj 2 x0)) fun d3 =>
    ob (dBin .eql d3 (.int .i64 0)) fun d4 =>
    some d4)
    (some (.bool false))
    none)
   (some (.bool false))
   none) := evP_of [] (by kernel_rfl)
theorem call_term_none (x0 : DV) {d : DV} (h : P_term_none (run cfg) x0 = some d) : (run cfg).p F_term_none [x0] = some d :=
  run_pure (fn := Tryz.f261) (c := code_term_none) (by kernel_rfl) Tryz.func261 (by kernel_rfl) ((show _ = P_term_none (run cfg) x0 by kernel_rfl).trans h)

/-! ### slices_Index__int_int -/
noncomputable def code_slices_Index__int_int : Code := Tryz.f263.body.getD .skip
noncomputable def P_slices_Index__int_int (R : Orc) (x0 : DV) (x1 : DV) : Option DV := evP cfg R fl_slices_Index__int_int (retP cfg.P Tryz.f263) [] code_slices_Index__int_int (initSt Tryz.f263 [(x0, .val), (x1, .val)] [])
noncomputable def P_slices_Index__int_int_2h (R : Orc) (t0 : DV) (t1 : DV) (t7 : DV) (t8 : DV) : Option DV := headP cfg R fl_slices_Index__int_int (retP cfg.P Tryz.f263) [true, false, true, false] code_slices_Index__int_int ⟨spread .undef 19 0 [(0, t0), (1, t1), (7, t7), (8, t8)], spread .val 19 0 [], spread none 19 0 [], []⟩
theorem eq_slices_Index__int_int (R : Orc) (x0 : DV) (x1 : DV) : P_slices_Index__int_int R x0 x1 =
  (ob (dLen x0) fun d1 =>
  P_slices_Index__int_int_2h R x0 x1 d1 (.int .i64 0)) := evP_of [] (by kernel_rfl)
theorem eq_slices_Index__int_int_2h (R : Orc) (t0 : DV) (t1 : DV) (t7 : DV) (t8 : DV) : P_slices_Index__int_int_2h R t0 t1 t7 t8 =
  (ob (dBin .lss t8 t7) fun d1 =>
  oif d1
   (ob (dIdx 1 t0 t8) fun d2 =>
   og (isLeaf d2) <|
   ob (dBin .eql t1 d2) fun d3 =>
   oif d3
    (some t8)
    (ob (dBin .add t8 (.int .i64 1)) fun d4 =>
    P_slices_Index__int_int_2h R t0 t1 t7 d4))
   (some (.int .i64 (-1)))) := headP_of [] (by kernel_rfl)
theorem call_slices_Index__int_int (x0 : DV) (x1 : DV) {d : DV} (h : P_slices_Index__int_int (run cfg) x0 x1 = some d) : (run cfg).p F_slices_Index__int_int [x0, x1] = some d :=
  run_pure (fn := Tryz.f263) (c := code_slices_Index__int_int) (by kernel_rfl) Tryz.func263 (by kernel_rfl) ((show _ = P_slices_Index__int_int (run cfg) x0 x1 by kernel_rfl).trans h)

/-! ### pats_leaf -/
noncomputable def code_pats_leaf : Code := Tryz.f278.body.getD .skip
noncomputable def P_pats_leaf (R : Orc) (x0 : DV) : Option DV := evP cfg R fl_pats_leaf (retP cfg.P Tryz.f278) [] code_pats_leaf (initSt Tryz.f278 [(x0, .val)] [])
theorem eq_pats_leaf (R : Orc) (x0 : DV) : P_pats_leaf R x0 =
  (ob (dBin .eql x0 (.int .i64 3)) fun d1 =>
  oif d1
   (some (.int .i64 1))
   (ob (dBin .eql x0 (.int .i64 4)) fun d2 =>
   oif d2
    (some (.int .i64 2))
    (ob (dBin .eql x0 (.int .i64 5)) fun d3 =>
    oif d3
     (some (.int .i64 3))
     (ob (dBin .eql x0 (.int .i64 6)) fun d4 =>
     oif d4
      (some (.int .i64 4))
      (ob (dBin .eql x0 (.int .i64 8)) fun d5 =>
      oif d5
       (some (.int .i64 8))
       (some (.int .i64 0))))))) := evP_of [] (by kernel_rfl)
theorem call_pats_leaf (x0 : DV) {d : DV} (h : P_pats_leaf (run cfg) x0 = some d) : (run cfg).p F_pats_leaf [x0] = some d :=
  run_pure (fn := Tryz.f278) (c := code_pats_leaf) (by kernel_rfl) Tryz.func278 (by kernel_rfl) ((show _ = P_pats_leaf (run cfg) x0 by kernel_rfl).trans h)

end Go.Su
