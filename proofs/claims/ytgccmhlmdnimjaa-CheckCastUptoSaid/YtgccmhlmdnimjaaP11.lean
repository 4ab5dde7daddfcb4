/-
  Equations of the program's functions: by program.
-/
import Derived.Test.YtgccmhlmdnimjaaP5
namespace Go.Su
open Go.Proofs
set_option linter.unusedVariables false

/-! ### pats_Bind -/
noncomputable def code_pats_Bind : Code := Try.f148.body.getD .skip
noncomputable def P_pats_Bind (R : Orc) (x0 : DV) (x1 : DV) : Option DV := evP cfg R fl_pats_Bind (retP cfg.P Try.f148) [] code_pats_Bind (initSt Try.f148 [(x0, .val), (x1, .val)] [])
theorem eq_pats_Bind (R : Orc) (x0 : DV) (x1 : DV) : P_pats_Bind R x0 x1 =
  (og (isAggN 7 x0) <|
  og (isAggN 3 x1) <|
  ob (R.p F_tree_CheckPat [(.agg [(proj 0 x0), (proj 1 x0), (proj 2 x0), (proj 3 x0), (proj 4 x0), (proj 5 x0), (proj 6 x0)])]) fun d1 =>
  ob (dBin .neq d1 (.int .i64 0)) fun d2 =>
  ogd d2
   (some (.tup [(.list 4 []), (.int .i64 1)]))
   (ob (R.p F_typ_Check [(.agg [(proj 0 x1), (proj 1 x1), (proj 2 x1)])]) fun d3 =>
   ob (dBin .neq d3 (.int .i64 0)) fun d4 =>
   oif d4
    (some (.tup [(.list 4 []), (.int .i64 1)]))
    (ob (R.r F_pats_bind [((.agg [(proj 0 x0), (proj 1 x0), (proj 2 x0), (proj 3 x0), (proj 4 x0), (proj 5 x0), (proj 6 x0)]), .val), ((.agg [(proj 0 x1), (proj 1 x1), (proj 2 x1)]), .val), ((.list 4 []), .own)] []) fun q5 =>
    ob (dExt 0 (.tup q5.1)) fun d6 =>
    ob (dExt 1 (.tup q5.1)) fun d7 =>
    ob (dUn .not d7) fun d8 =>
    oif d8
     (some (.tup [(.list 4 []), (.int .i64 4)]))
     (some (.tup [d6, (.int .i64 0)]))))
   none) := evP_of [] (by kernel_rfl)
theorem call_pats_Bind (x0 : DV) (x1 : DV) {d : DV} (h : P_pats_Bind (run cfg) x0 x1 = some d) : (run cfg).p F_pats_Bind [x0, x1] = some d :=
  run_pure (fn := Try.f148) (c := code_pats_Bind) (by kernel_rfl) Try.func148 (by kernel_rfl) ((show _ = P_pats_Bind (run cfg) x0 x1 by kernel_rfl).trans h)

/-! ### agree_Agree -/
noncomputable def code_agree_Agree : Code := Try.f149.body.getD .skip
noncomputable def P_agree_Agree (R : Orc) (x0 : DV) (x1 : DV) : Option DV := evP cfg R fl_agree_Agree (retP cfg.P Try.f149) [] code_agree_Agree (initSt Try.f149 [(x0, .val), (x1, .val)] [])
theorem eq_agree_Agree (R : Orc) (x0 : DV) (x1 : DV) : P_agree_Agree R x0 x1 =
  (og (isAggN 3 x0) <|
  og (isAggN 3 x1) <|
  ob (R.p F_typ_Check [(.agg [(proj 0 x0), (proj 1 x0), (proj 2 x0)])]) fun d1 =>
  ob (dBin .eql d1 (.int .i64 0)) fun d2 =>
  ogd d2
   (ob (R.p F_typ_Check [(.agg [(proj 0 x1), (proj 1 x1), (proj 2 x1)])]) fun d3 =>
   ob (dBin .eql d3 (.int .i64 0)) fun d4 =>
   ogd d4
    (ob (R.p F_agree_agrees [(.agg [(proj 0 x0), (proj 1 x0), (proj 2 x0)]), (.agg [(proj 0 x1), (proj 1 x1), (proj 2 x1)])]) fun d5 =>
    some d5)
    (some (.bool false))
    none)
   (some (.bool false))
   none) := evP_of [] (by kernel_rfl)
theorem call_agree_Agree (x0 : DV) (x1 : DV) {d : DV} (h : P_agree_Agree (run cfg) x0 x1 = some d) : (run cfg).p F_agree_Agree [x0, x1] = some d :=
  run_pure (fn := Try.f149) (c := code_agree_Agree) (by kernel_rfl) Try.func149 (by kernel_rfl) ((show _ = P_agree_Agree (run cfg) x0 x1 by kernel_rfl).trans h)

/-! ### typ_right -/
noncomputable def code_typ_right : Code := Try.f150.body.getD .skip
noncomputable def P_typ_right (R : Orc) (x0 : DV) : Option DV := evP cfg R fl_typ_right (retP cfg.P Try.f150) [] code_typ_right (initSt Try.f150 [(x0, .val)] [])
noncomputable def P_typ_right_9h (R : Orc) (t33 : DV) (t34 : DV) (t35 : DV) : Option DV := headP cfg R fl_typ_right (retP cfg.P Try.f150) [true, true, true, true, false, true, false] code_typ_right ⟨spread .undef 43 0 [(33, t33), (34, t34), (35, t35)], spread .val 43 0 [], spread none 43 0 [], []⟩
theorem eq_typ_right (R : Orc) (x0 : DV) : P_typ_right R x0 =
  (og (isAggN 3 x0) <|
  ob (R.p F_typ_arity [(proj 0 x0)]) fun d1 =>
  ob (dBin .lss d1 (.int .i64 0)) fun d2 =>
  ogd d2
   (some (.bool false))
   (ob (dLen (proj 2 x0)) fun d3 =>
   ob (dBin .neq d3 d1) fun d4 =>
   oif d4
    (some (.bool false))
    (ob (dBin .eql (proj 0 x0) (.int .i64 6)) fun d5 =>
    oif d5
     (ob (dBin .geq (proj 1 x0) (.int .i64 0)) fun d6 =>
     ogd d6
      (ob (dBin .leq (proj 1 x0) (.int .i64 1048576)) fun d7 =>
      some d7)
      (some (.bool false))
      none)
     (ob (dBin .neq (proj 1 x0) (.int .i64 0)) fun d8 =>
     oif d8
      (some (.bool false))
      (ob (dLen (proj 2 x0)) fun d9 =>
      P_typ_right_9h R (proj 2 x0) d9 (.int .i64 0)))))
   none) := evP_of [] (by kernel_rfl)
theorem eq_typ_right_9h (R : Orc) (t33 : DV) (t34 : DV) (t35 : DV) : P_typ_right_9h R t33 t34 t35 =
  (ob (dBin .lss t35 t34) fun d1 =>
  oif d1
   (ob (dIdx 3 t33 t35) fun d2 =>
   ob (R.p F_typ_right [(.agg [(proj 0 d2), (proj 1 d2), (proj 2 d2)])]) fun d3 =>
   ob (dUn .not d3) fun d4 =>
   oif d4
    (some (.bool false))
    (ob (dBin .add t35 (.int .i64 1)) fun d5 =>
    P_typ_right_9h R t33 t34 d5))
   (some (.bool true))) := headP_of [] (by kernel_rfl)
theorem call_typ_right (x0 : DV) {d : DV} (h : P_typ_right (run cfg) x0 = some d) : (run cfg).p F_typ_right [x0] = some d :=
  run_pure (fn := Try.f150) (c := code_typ_right) (by kernel_rfl) Try.func150 (by kernel_rfl) ((show _ = P_typ_right (run cfg) x0 by kernel_rfl).trans h)

/-! ### word_Key -/
noncomputable def code_word_Key : Code := Try.f154.body.getD .skip
noncomputable def P_word_Key (R : Orc) (x0 : DV) : Option DV := evP cfg R fl_word_Key (retP cfg.P Try.f154) [] code_word_Key (initSt Try.f154 [(x0, .val)] [])
theorem eq_word_Key (R : Orc) (x0 : DV) : P_word_Key R x0 =
  (ob (dBin .eql x0 (.str ⟨#[108, 101, 116]⟩)) fun d1 =>
  oif d1
   (some (.bool true))
   (ob (dBin .eql x0 (.str ⟨#[114, 101, 99]⟩)) fun d2 =>
   oif d2
    (some (.bool true))
    (ob (dBin .eql x0 (.str ⟨#[105, 110]⟩)) fun d3 =>
    oif d3
     (some (.bool true))
     (ob (dBin .eql x0 (.str ⟨#[102, 117, 110]⟩)) fun d4 =>
     oif d4
      (some (.bool true))
      (ob (dBin .eql x0 (.str ⟨#[105, 102]⟩)) fun d5 =>
      oif d5
       (some (.bool true))
       (ob (dBin .eql x0 (.str ⟨#[116, 104, 101, 110]⟩)) fun d6 =>
       oif d6
        (some (.bool true))
        (ob (dBin .eql x0 (.str ⟨#[101, 108, 115, 101]⟩)) fun d7 =>
        oif d7
         (some (.bool true))
         (ob (dBin .eql x0 (.str ⟨#[109, 97, 116, 99, 104]⟩)) fun d8 =>
         oif d8
          (some (.bool true))
          (ob (dBin .eql x0 (.str ⟨#[119, 105, 116, 104]⟩)) fun d9 =>
          oif d9
           (some (.bool true))
           (ob (dBin .eql x0 (.str ⟨#[101, 110, 100]⟩)) fun d10 =>
           oif d10
            (some (.bool true))
            (ob (dBin .eql x0 (.str ⟨#[116, 114, 117, 101]⟩)) fun d11 =>
            oif d11
             (some (.bool true))
             (ob (dBin .eql x0 (.str ⟨#[102, 97, 108, 115, 101]⟩)) fun d12 =>
             oif d12
              (some (.bool true))
              (ob (dBin .eql x0 (.str ⟨#[105, 110, 116]⟩)) fun d13 =>
              oif d13
               (some (.bool true))
               (ob (dBin .eql x0 (.str ⟨#[98, 111, 111, 108]⟩)) fun d14 =>
               oif d14
                (some (.bool true))
                (ob (dBin .eql x0 (.str ⟨#[115, 116, 114, 105, 110, 103]⟩)) fun d15 =>
                oif d15
                 (some (.bool true))
                 (ob (dBin .eql x0 (.str ⟨#[117, 110, 105, 116]⟩)) fun d16 =>
                 oif d16
                  (some (.bool true))
                  (ob (dBin .eql x0 (.str ⟨#[108, 105, 115, 116]⟩)) fun d17 =>
                  oif d17
                   (some (.bool true))
                   (some (.bool false))))))))))))))))))) := evP_of [] (by kernel_rfl)
theorem call_word_Key (x0 : DV) {d : DV} (h : P_word_Key (run cfg) x0 = some d) : (run cfg).p F_word_Key [x0] = some d :=
  run_pure (fn := Try.f154) (c := code_word_Key) (by kernel_rfl) Try.func154 (by kernel_rfl) ((show _ = P_word_Key (run cfg) x0 by kernel_rfl).trans h)

/-! ### word_inner -/
noncomputable def code_word_inner : Code := Try.f155.body.getD .skip
noncomputable def P_word_inner (R : Orc) (x0 : DV) : Option DV := evP cfg R fl_word_inner (retP cfg.P Try.f155) [] code_word_inner (initSt Try.f155 [(x0, .val)] [])
set_option maxRecDepth 100000 in
theorem eq_word_inner (R : Orc) (x0 : DV) : P_word_inner R x0 =
  (ob (dBin .geq x0 (.int .u8 97)) fun d1 =>
  ogd d1
   (ob (dBin .leq x0 (.int .u8 122)) fun d2 =>
   ogd d2
    (some (.bool true))
    (ob (dBin .geq x0 (.int .u8 65)) fun d3 =>
    ogd d3
     (ob (dBin .leq x0 (.int .u8 90)) fun d4 =>
     ogd d4
      (some (.bool true))
      (ob (dBin .geq x0 (.int .u8 48)) fun d5 =>
      ogd d5
       (ob (dBin .leq x0 (.int .u8 57)) fun d6 =>
       ogd d6
        (some (.bool true))
        (ob (dBin .eql x0 (.int .u8 95)) fun d7 =>
        ogd d7
         (some (.bool true))
         (ob (dBin .eql x0 (.int .u8 39)) fun d8 =>
         some d8)
         none)
        none)
       (ob (dBin .eql x0 (.int .u8 95)) fun d9 =>
       ogd d9
        (some (.bool true))
        (ob (dBin .eql x0 (.int .u8 39)) fun d10 =>
        some d10)
        none)
       none)
      none)
     (ob (dBin .geq x0 (.int .u8 48)) fun d11 =>
     ogd d11
      (ob (dBin .leq x0 (.int .u8 57)) fun d12 =>
      ogd d12
       (some (.bool true))
       (ob (dBin .eql x0 (.int .u8 95)) fun d13 =>
       ogd d13
        (some (.bool true))
        (ob (dBin .eql x0 (.int .u8 39)) fun d14 =>
        some d14)
        none)
       none)
      (ob (dBin .eql x0 (.int .u8 95)) fun d15 =>
      ogd d15
       (some (.bool true))
       (ob (dBin .eql x0 (.int .u8 39)) fun d16 =>
       some d16)
       none)
      none)
     none)
    none)
   (ob (dBin .geq x0 (.int .u8 65)) fun d17 =>
   ogd d17
    (ob (dBin .leq x0 (.int .u8 90)) fun d18 =>
    ogd d18
     (some (.bool true))
     (ob (dBin .geq x0 (.int .u8 48)) fun d19 =>
     ogd d19
      (ob (dBin .leq x0 (.int .u8 57)) fun d20 =>
      ogd d20
       (some (.bool true))
       (ob (dBin .eql x0 (.int .u8 95)) fun d21 =>
       ogd d21
        (some (.bool true))
        (ob (dBin .eql x0 (.int .u8 39)) fun d22 =>
        some d22)
        none)
       none)
      (ob (dBin .eql x0 (.int .u8 95)) fun d23 =>
      ogd d23
       (some (.bool true))
       (ob (dBin .eql x0 (.int .u8 39)) fun d24 =>
       some d24)
       none)
      none)
     none)
    (ob (dBin .geq x0 (.int .u8 48)) fun d25 =>
    ogd d25
     (ob (dBin .leq x0 (.int .u8 57)) fun d26 =>
     ogd d26
      (some (.bool true))
      (ob (dBin .eql x0 (.int .u8 95)) fun d27 =>
      ogd d27
       (some (.bool true))
       (ob (dBin .eql x0 (.int .u8 39)) fun d28 =>
       some d28)
       none)
      none)
     (ob (dBin .eql x0 (.int .u8 95)) fun d29 =>
     ogd d29
      (some (.bool true))
      (ob (dBin .eql x0 (.int .u8 39)) fun d30 =>
      some d30)
      none)
     none)
    none)
   none) := evP_of [] (by kernel_rfl)
theorem call_word_inner (x0 : DV) {d : DV} (h : P_word_inner (run cfg) x0 = some d) : (run cfg).p F_word_inner [x0] = some d :=
  run_pure (fn := Try.f155) (c := code_word_inner) (by kernel_rfl) Try.func155 (by kernel_rfl) ((show _ = P_word_inner (run cfg) x0 by kernel_rfl).trans h)

/-! ### typ_Closed -/
noncomputable def code_typ_Closed : Code := Try.f156.body.getD .skip
noncomputable def P_typ_Closed (R : Orc) (x0 : DV) : Option DV := evP cfg R fl_typ_Closed (retP cfg.P Try.f156) [] code_typ_Closed (initSt Try.f156 [(x0, .val)] [])
theorem eq_typ_Closed (R : Orc) (x0 : DV) : P_typ_Closed R x0 =
  (og (isAggN 3 x0) <|
  ob (R.p F_typ_without [(.agg [(proj 0 x0), (proj 1 x0), (proj 2 x0)]), (.int .i64 6)]) fun d1 =>
  some d1) := evP_of [] (by kernel_rfl)
theorem call_typ_Closed (x0 : DV) {d : DV} (h : P_typ_Closed (run cfg) x0 = some d) : (run cfg).p F_typ_Closed [x0] = some d :=
  run_pure (fn := Try.f156) (c := code_typ_Closed) (by kernel_rfl) Try.func156 (by kernel_rfl) ((show _ = P_typ_Closed (run cfg) x0 by kernel_rfl).trans h)

/-! ### r05_Same -/
noncomputable def code_r05_Same : Code := Try.f170.body.getD .skip
noncomputable def P_r05_Same (R : Orc) (x0 : DV) (x1 : DV) : Option DV := evP cfg R fl_r05_Same (retP cfg.P Try.f170) [] code_r05_Same (initSt Try.f170 [(x0, .val), (x1, .val)] [])
noncomputable def P_r05_Same_3 (R : Orc) (b2 : DV) (b3 : DV) : Option DV := evP cfg R fl_r05_Same (retP cfg.P Try.f170) [true, true] code_r05_Same ⟨spread .undef 117 0 [], spread .val 117 0 [(2, (.loc 2 0)), (3, (.loc 3 0))], spread none 117 0 [(2, some [((proj 0 b2), .val), ((proj 1 b2), .val), ((proj 2 b2), .val), ((proj 3 b2), .val), ((proj 4 b2), .val), ((proj 5 b2), .val), ((proj 6 b2), .val), ((proj 7 b2), .val), ((proj 8 b2), .val), ((proj 9 b2), .val), ((proj 10 b2), .val), ((proj 11 b2), .val), ((proj 12 b2), .val), ((proj 13 b2), .val), ((proj 14 b2), .val), ((proj 15 b2), .val)]), (3, some [((proj 0 b3), .val), ((proj 1 b3), .val), ((proj 2 b3), .val), ((proj 3 b3), .val), ((proj 4 b3), .val), ((proj 5 b3), .val), ((proj 6 b3), .val), ((proj 7 b3), .val), ((proj 8 b3), .val), ((proj 9 b3), .val), ((proj 10 b3), .val), ((proj 11 b3), .val), ((proj 12 b3), .val), ((proj 13 b3), .val), ((proj 14 b3), .val), ((proj 15 b3), .val)])], []⟩
noncomputable def P_r05_Same_6h (R : Orc) (t5 : DV) (b2 : DV) (b3 : DV) : Option DV := headP cfg R fl_r05_Same (retP cfg.P Try.f170) [true, true, true, false, true, false] code_r05_Same ⟨spread .undef 117 0 [(5, t5)], spread .val 117 0 [(2, (.loc 2 0)), (3, (.loc 3 0))], spread none 117 0 [(2, some [((proj 0 b2), .val), ((proj 1 b2), .val), ((proj 2 b2), .val), ((proj 3 b2), .val), ((proj 4 b2), .val), ((proj 5 b2), .val), ((proj 6 b2), .val), ((proj 7 b2), .val), ((proj 8 b2), .val), ((proj 9 b2), .val), ((proj 10 b2), .val), ((proj 11 b2), .val), ((proj 12 b2), .val), ((proj 13 b2), .val), ((proj 14 b2), .val), ((proj 15 b2), .val)]), (3, some [((proj 0 b3), .val), ((proj 1 b3), .val), ((proj 2 b3), .val), ((proj 3 b3), .val), ((proj 4 b3), .val), ((proj 5 b3), .val), ((proj 6 b3), .val), ((proj 7 b3), .val), ((proj 8 b3), .val), ((proj 9 b3), .val), ((proj 10 b3), .val), ((proj 11 b3), .val), ((proj 12 b3), .val), ((proj 13 b3), .val), ((proj 14 b3), .val), ((proj 15 b3), .val)])], []⟩
noncomputable def P_r05_Same_11h (R : Orc) (t6 : DV) (b2 : DV) (b3 : DV) : Option DV := headP cfg R fl_r05_Same (retP cfg.P Try.f170) [true, true, true, true, false, true, false] code_r05_Same ⟨spread .undef 117 0 [(6, t6)], spread .val 117 0 [(2, (.loc 2 0)), (3, (.loc 3 0))], spread none 117 0 [(2, some [((proj 0 b2), .val), ((proj 1 b2), .val), ((proj 2 b2), .val), ((proj 3 b2), .val), ((proj 4 b2), .val), ((proj 5 b2), .val), ((proj 6 b2), .val), ((proj 7 b2), .val), ((proj 8 b2), .val), ((proj 9 b2), .val), ((proj 10 b2), .val), ((proj 11 b2), .val), ((proj 12 b2), .val), ((proj 13 b2), .val), ((proj 14 b2), .val), ((proj 15 b2), .val)]), (3, some [((proj 0 b3), .val), ((proj 1 b3), .val), ((proj 2 b3), .val), ((proj 3 b3), .val), ((proj 4 b3), .val), ((proj 5 b3), .val), ((proj 6 b3), .val), ((proj 7 b3), .val), ((proj 8 b3), .val), ((proj 9 b3), .val), ((proj 10 b3), .val), ((proj 11 b3), .val), ((proj 12 b3), .val), ((proj 13 b3), .val), ((proj 14 b3), .val), ((proj 15 b3), .val)])], []⟩
set_option maxRecDepth 100000 in
theorem eq_r05_Same (R : Orc) (x0 : DV) (x1 : DV) : P_r05_Same R x0 x1 =
  (og (isAggN 16 x0) <|
  og (isAggN 16 x1) <|
  ob (dBin .neq (proj 0 x0) (proj 0 x1)) fun d1 =>
  ogd d1
   (some (.bool false))
   (ob (dBin .neq (proj 3 x0) (proj 3 x1)) fun d2 =>
   ogd d2
    (some (.bool false))
    (ob (dBin .neq (proj 4 x0) (proj 4 x1)) fun d3 =>
    ogd d3
     (some (.bool false))
     (ob (dBin .neq (proj 5 x0) (proj 5 x1)) fun d4 =>
     ogd d4
      (some (.bool false))
      (ob (dBin .neq (proj 6 x0) (proj 6 x1)) fun d5 =>
      ogd d5
       (some (.bool false))
       (ob (dBin .neq (proj 7 x0) (proj 7 x1)) fun d6 =>
       ogd d6
        (some (.bool false))
        (ob (dLen (proj 14 x0)) fun d7 =>
        ob (dLen (proj 14 x1)) fun d8 =>
        ob (dBin .neq d7 d8) fun d9 =>
        ogd d9
         (some (.bool false))
         (ob (dLen (proj 15 x0)) fun d10 =>
         ob (dLen (proj 15 x1)) fun d11 =>
         ob (dBin .neq d10 d11) fun d12 =>
         oif d12
          (some (.bool false))
          (P_r05_Same_3 R x0 x1))
         none)
        none)
       none)
      none)
     none)
    none)
   none) := evP_of [3] (by kernel_rfl)
theorem eq_r05_Same_3 (R : Orc) (b2 : DV) (b3 : DV) : P_r05_Same_3 R b2 b3 =
  (ob (R.p F_r03_Same [(.agg [(proj 8 b2), (proj 9 b2), (proj 10 b2)]), (.agg [(proj 8 b3), (proj 9 b3), (proj 10 b3)])]) fun d1 =>
  ob (dUn .not d1) fun d2 =>
  ogd d2
   (some (.bool false))
   (ob (R.p F_r03_Same [(.agg [(proj 11 b2), (proj 12 b2), (proj 13 b2)]), (.agg [(proj 11 b3), (proj 12 b3), (proj 13 b3)])]) fun d3 =>
   ob (dUn .not d3) fun d4 =>
   oif d4
    (some (.bool false))
    (P_r05_Same_6h R (.int .i64 0) b2 b3))
   none) := evP_of [3] (by kernel_rfl)
theorem eq_r05_Same_6h (R : Orc) (t5 : DV) (b2 : DV) (b3 : DV) : P_r05_Same_6h R t5 b2 b3 =
  (ob (dLen (proj 14 b2)) fun d1 =>
  ob (dBin .lss t5 d1) fun d2 =>
  oif d2
   (ob (dIdx 7 (proj 14 b2) t5) fun d3 =>
   ob (dIdx 7 (proj 14 b3) t5) fun d4 =>
   ob (R.p F_r05_SamePat [(.agg [(proj 0 d3), (proj 1 d3), (proj 2 d3), (proj 3 d3), (proj 4 d3), (proj 5 d3), (proj 6 d3)]), (.agg [(proj 0 d4), (proj 1 d4), (proj 2 d4), (proj 3 d4), (proj 4 d4), (proj 5 d4), (proj 6 d4)])]) fun d5 =>
   ob (dUn .not d5) fun d6 =>
   oif d6
    (some (.bool false))
    (ob (dBin .add t5 (.int .i64 1)) fun d7 =>
    P_r05_Same_6h R d7 b2 b3))
   (P_r05_Same_11h R (.int .i64 0) b2 b3)) := headP_of [3] (by kernel_rfl)
theorem eq_r05_Same_11h (R : Orc) (t6 : DV) (b2 : DV) (b3 : DV) : P_r05_Same_11h R t6 b2 b3 =
  (ob (dLen (proj 15 b2)) fun d1 =>
  ob (dBin .lss t6 d1) fun d2 =>
  oif d2
   (ob (dIdx 16 (proj 15 b2) t6) fun d3 =>
   ob (dIdx 16 (proj 15 b3) t6) fun d4 =>
   ob (R.p F_r05_Same [(.agg [(proj 0 d3), (proj 1 d3), (proj 2 d3), (proj 3 d3), (proj 4 d3), (proj 5 d3), (proj 6 d3), (proj 7 d3), (proj 8 d3), (proj 9 d3), (proj 10 d3), (proj 11 d3), (proj 12 d3), (proj 13 d3), (proj 14 d3), (proj 15 d3)]), (.agg [(proj 0 d4), (proj 1 d4), (proj 2 d4), (proj 3 d4), (proj 4 d4), (proj 5 d4), (proj 6 d4), (proj 7 d4), (proj 8 d4), (proj 9 d4), (proj 10 d4), (proj 11 d4), (proj 12 d4), (proj 13 d4), (proj 14 d4), (proj 15 d4)])]) fun d5 =>
   ob (dUn .not d5) fun d6 =>
   oif d6
    (some (.bool false))
    (ob (dBin .add t6 (.int .i64 1)) fun d7 =>
    P_r05_Same_11h R d7 b2 b3))
   (some (.bool true))) := headP_of [3] (by kernel_rfl)
theorem call_r05_Same (x0 : DV) (x1 : DV) {d : DV} (h : P_r05_Same (run cfg) x0 x1 = some d) : (run cfg).p F_r05_Same [x0, x1] = some d :=
  run_pure (fn := Try.f170) (c := code_r05_Same) (by kernel_rfl) Try.func170 (by kernel_rfl) ((show _ = P_r05_Same (run cfg) x0 x1 by kernel_rfl).trans h)

/-! ### r05_patAt -/
noncomputable def code_r05_patAt : Code := Try.f171.body.getD .skip
noncomputable def P_r05_patAt (R : Orc) (x0 : DV) (x1 : DV) : Option DV := evP cfg R fl_r05_patAt (retP cfg.P Try.f171) [] code_r05_patAt (initSt Try.f171 [(x0, .val), (x1, .val)] [])
noncomputable def P_r05_patAt_4h (R : Orc) (t5 : DV) (b2 : DV) (b3 : DV) : Option DV := headP cfg R fl_r05_patAt (retP cfg.P Try.f171) [true, true, false, true, false] code_r05_patAt ⟨spread .undef 30 0 [(5, t5)], spread .val 30 0 [(2, (.loc 2 0)), (3, (.loc 3 0))], spread none 30 0 [(2, some [((proj 0 b2), .val), ((proj 1 b2), .val), ((proj 2 b2), .val), ((proj 3 b2), .val), ((proj 4 b2), .val), ((proj 5 b2), .val), ((proj 6 b2), .val)]), (3, some [((proj 0 b3), .val), ((proj 1 b3), .val), ((proj 2 b3), .val), ((proj 3 b3), .val), ((proj 4 b3), .val), ((proj 5 b3), .val), ((proj 6 b3), .val)])], []⟩
theorem eq_r05_patAt (R : Orc) (x0 : DV) (x1 : DV) : P_r05_patAt R x0 x1 =
  (og (isAggN 7 x0) <|
  og (isAggN 7 x1) <|
  ob (dEqA [.int, .int] (.agg [(proj 1 x0), (proj 2 x0)]) (.agg [(proj 1 x1), (proj 2 x1)])) fun b1 =>
  oif (.bool !b1)
   (some (.bool false))
   (P_r05_patAt_4h R (.int .i64 0) x0 x1)) := evP_of [] (by kernel_rfl)
theorem eq_r05_patAt_4h (R : Orc) (t5 : DV) (b2 : DV) (b3 : DV) : P_r05_patAt_4h R t5 b2 b3 =
  (ob (dLen (proj 6 b2)) fun d1 =>
  ob (dBin .lss t5 d1) fun d2 =>
  oif d2
   (ob (dIdx 7 (proj 6 b2) t5) fun d3 =>
   ob (dIdx 7 (proj 6 b3) t5) fun d4 =>
   ob (R.p F_r05_patAt [(.agg [(proj 0 d3), (proj 1 d3), (proj 2 d3), (proj 3 d3), (proj 4 d3), (proj 5 d3), (proj 6 d3)]), (.agg [(proj 0 d4), (proj 1 d4), (proj 2 d4), (proj 3 d4), (proj 4 d4), (proj 5 d4), (proj 6 d4)])]) fun d5 =>
   ob (dUn .not d5) fun d6 =>
   oif d6
    (some (.bool false))
    (ob (dBin .add t5 (.int .i64 1)) fun d7 =>
    P_r05_patAt_4h R d7 b2 b3))
   (some (.bool true))) := headP_of [] (by kernel_rfl)
theorem call_r05_patAt (x0 : DV) (x1 : DV) {d : DV} (h : P_r05_patAt (run cfg) x0 x1 = some d) : (run cfg).p F_r05_patAt [x0, x1] = some d :=
  run_pure (fn := Try.f171) (c := code_r05_patAt) (by kernel_rfl) Try.func171 (by kernel_rfl) ((show _ = P_r05_patAt (run cfg) x0 x1 by kernel_rfl).trans h)

/-! ### r01_digit -/
noncomputable def code_r01_digit : Code := Try.f172.body.getD .skip
noncomputable def P_r01_digit (R : Orc) (x0 : DV) : Option DV := evP cfg R fl_r01_digit (retP cfg.P Try.f172) [] code_r01_digit (initSt Try.f172 [(x0, .val)] [])
theorem eq_r01_digit (R : Orc) (x0 : DV) : P_r01_digit R x0 =
  (ob (dBin .geq x0 (.int .u8 48)) fun d1 =>
  ogd d1
   (ob (dBin .leq x0 (.int .u8 57)) fun d2 =>
   some d2)
   (some (.bool false))
   none) := evP_of [] (by kernel_rfl)
theorem call_r01_digit (x0 : DV) {d : DV} (h : P_r01_digit (run cfg) x0 = some d) : (run cfg).p F_r01_digit [x0] = some d :=
  run_pure (fn := Try.f172) (c := code_r01_digit) (by kernel_rfl) Try.func172 (by kernel_rfl) ((show _ = P_r01_digit (run cfg) x0 by kernel_rfl).trans h)

/-! ### term_shapeOf -/
noncomputable def code_term_shapeOf : Code := Try.f173.body.getD .skip
noncomputable def P_term_shapeOf (R : Orc) (x0 : DV) : Option DV := evP cfg R fl_term_shapeOf (retP cfg.P Try.f173) [] code_term_shapeOf (initSt Try.f173 [(x0, .val)] [])
set_option maxRecDepth 100000 in
theorem eq_term_shapeOf (R : Orc) (x0 : DV) : P_term_shapeOf R x0 =
  (og (isAggN 20 x0) <|
  ob (dBin .eql (proj 0 x0) (.int .i64 1)) fun d1 =>
  oif d1
   (some (.tup [(.agg [(.bool true), (.bool false), (.bool false), (.bool false), (.bool false), (.bool false), (.bool false), (.bool true), (.bool false), (.bool false), (.bool false), (.bool false), (.int .i64 0)]), (.bool true)]))
   (ob (dBin .eql (proj 0 x0) (.int .i64 2)) fun d2 =>
   oif d2
    (some (.tup [(.agg [(.bool false), (.bool false), (.bool true), (.bool false), (.bool false), (.bool false), (.bool false), (.bool false), (.bool false), (.bool false), (.bool false), (.bool false), (.int .i64 0)]), (.bool true)]))
    (ob (dBin .eql (proj 0 x0) (.int .i64 3)) fun d3 =>
    oif d3
     (some (.tup [(.agg [(.bool false), (.bool false), (.bool true), (.bool false), (.bool false), (.bool false), (.bool false), (.bool false), (.bool false), (.bool false), (.bool false), (.bool false), (.int .i64 0)]), (.bool true)]))
     (ob (dBin .eql (proj 0 x0) (.int .i64 4)) fun d4 =>
     oif d4
      (some (.tup [(.agg [(.bool false), (.bool false), (.bool false), (.bool true), (.bool false), (.bool false), (.bool false), (.bool false), (.bool false), (.bool false), (.bool false), (.bool false), (.int .i64 0)]), (.bool true)]))
      (ob (dBin .eql (proj 0 x0) (.int .i64 5)) fun d5 =>
      oif d5
       (some (.tup [(.agg [(.bool false), (.bool false), (.bool false), (.bool false), (.bool false), (.bool false), (.bool false), (.bool false), (.bool false), (.bool false), (.bool false), (.bool false), (.int .i64 0)]), (.bool true)]))
       (ob (dBin .eql (proj 0 x0) (.int .i64 7)) fun d6 =>
       oif d6
        (some (.tup [(.agg [(.bool false), (.bool false), (.bool false), (.bool false), (.bool false), (.bool false), (.bool false), (.bool false), (.bool false), (.bool true), (.bool false), (.bool false), (.int .i64 0)]), (.bool true)]))
        (ob (dBin .eql (proj 0 x0) (.int .i64 6)) fun d7 =>
        oif d7
         (some (.tup [(.agg [(.bool false), (.bool false), (.bool false), (.bool false), (.bool false), (.bool false), (.bool false), (.bool false), (.bool false), (.bool false), (.bool false), (.bool false), (.int .i64 2)]), (.bool true)]))
         (ob (dBin .eql (proj 0 x0) (.int .i64 8)) fun d8 =>
         oif d8
          (some (.tup [(.agg [(.bool false), (.bool false), (.bool false), (.bool false), (.bool false), (.bool false), (.bool false), (.bool false), (.bool false), (.bool false), (.bool false), (.bool false), (.int .i64 2)]), (.bool true)]))
          (ob (dBin .eql (proj 0 x0) (.int .i64 10)) fun d9 =>
          oif d9
           (some (.tup [(.agg [(.bool false), (.bool false), (.bool false), (.bool false), (.bool false), (.bool false), (.bool false), (.bool false), (.bool false), (.bool false), (.bool false), (.bool false), (.int .i64 2)]), (.bool true)]))
           (ob (dBin .eql (proj 0 x0) (.int .i64 9)) fun d10 =>
           oif d10
            (some (.tup [(.agg [(.bool true), (.bool false), (.bool false), (.bool false), (.bool false), (.bool false), (.bool false), (.bool false), (.bool false), (.bool true), (.bool false), (.bool false), (.int .i64 1)]), (.bool true)]))
            (ob (dBin .eql (proj 0 x0) (.int .i64 11)) fun d11 =>
            oif d11
             (some (.tup [(.agg [(.bool true), (.bool false), (.bool false), (.bool false), (.bool false), (.bool false), (.bool true), (.bool false), (.bool false), (.bool false), (.bool false), (.bool false), (.int .i64 2)]), (.bool true)]))
             (ob (dBin .eql (proj 0 x0) (.int .i64 12)) fun d12 =>
             oif d12
              (some (.tup [(.agg [(.bool true), (.bool true), (.bool false), (.bool false), (.bool false), (.bool false), (.bool true), (.bool false), (.bool false), (.bool true), (.bool true), (.bool false), (.int .i64 2)]), (.bool true)]))
              (ob (dBin .eql (proj 0 x0) (.int .i64 13)) fun d13 =>
              oif d13
               (some (.tup [(.agg [(.bool false), (.bool false), (.bool false), (.bool false), (.bool false), (.bool false), (.bool false), (.bool false), (.bool false), (.bool false), (.bool false), (.bool false), (.int .i64 3)]), (.bool true)]))
               (ob (dBin .eql (proj 0 x0) (.int .i64 14)) fun d14 =>
               oif d14
                (ob (dLen (proj 18 x0)) fun d15 =>
                ob (dBin .add d15 (.int .i64 1)) fun d16 =>
                og (isCell d16) <|
                ob (dLen (proj 18 x0)) fun d17 =>
                ob (dBin .gtr d17 (.int .i64 0)) fun d18 =>
                some (.tup [(.agg [(.bool false), (.bool false), (.bool false), (.bool false), (.bool false), (.bool true), (.bool false), (.bool false), (.bool true), (.bool false), (.bool false), (.bool false), d16]), d18]))
                (ob (dBin .eql (proj 0 x0) (.int .i64 15)) fun d19 =>
                oif d19
                 (some (.tup [(.agg [(.bool false), (.bool false), (.bool false), (.bool false), (.bool true), (.bool true), (.bool false), (.bool false), (.bool false), (.bool false), (.bool false), (.bool false), (.int .i64 2)]), (.bool true)]))
                 (ob (dBin .eql (proj 0 x0) (.int .i64 16)) fun d20 =>
                 oif d20
                  (some (.tup [(.agg [(.bool false), (.bool false), (.bool false), (.bool false), (.bool false), (.bool false), (.bool false), (.bool false), (.bool false), (.bool true), (.bool true), (.bool true), (.int .i64 1)]), (.bool true)]))
                  (some (.tup [(.agg [(.bool false), (.bool false), (.bool false), (.bool false), (.bool false), (.bool false), (.bool false), (.bool false), (.bool false), (.bool false), (.bool false), (.bool false), (.int .i64 0)]), (.bool false)])))))))))))))))))) := evP_of [] (by kernel_rfl)
theorem call_term_shapeOf (x0 : DV) {d : DV} (h : P_term_shapeOf (run cfg) x0 = some d) : (run cfg).p F_term_shapeOf [x0] = some d :=
  run_pure (fn := Try.f173) (c := code_term_shapeOf) (by kernel_rfl) Try.func173 (by kernel_rfl) ((show _ = P_term_shapeOf (run cfg) x0 by kernel_rfl).trans h)

/-! ### term_named -/
noncomputable def code_term_named : Code := Try.f174.body.getD .skip
noncomputable def P_term_named (R : Orc) (x0 : DV) (x1 : DV) : Option DV := evP cfg R fl_term_named (retP cfg.P Try.f174) [] code_term_named (initSt Try.f174 [(x0, .val), (x1, .val)] [])
theorem eq_term_named (R : Orc) (x0 : DV) (x1 : DV) : P_term_named R x0 x1 =
  (oif x0
   (ob (R.p F_word_Name [x1]) fun d1 =>
   some d1)
   (ob (dBin .eql x1 (.str ⟨#[]⟩)) fun d2 =>
   some d2)) := evP_of [] (by kernel_rfl)
theorem call_term_named (x0 : DV) (x1 : DV) {d : DV} (h : P_term_named (run cfg) x0 x1 = some d) : (run cfg).p F_term_named [x0, x1] = some d :=
  run_pure (fn := Try.f174) (c := code_term_named) (by kernel_rfl) Try.func174 (by kernel_rfl) ((show _ = P_term_named (run cfg) x0 x1 by kernel_rfl).trans h)

/-! ### term_typed -/
noncomputable def code_term_typed : Code := Try.f175.body.getD .skip
noncomputable def P_term_typed (R : Orc) (x0 : DV) (x1 : DV) : Option DV := evP cfg R fl_term_typed (retP cfg.P Try.f175) [] code_term_typed (initSt Try.f175 [(x0, .val), (x1, .val)] [])
theorem eq_term_typed (R : Orc) (x0 : DV) (x1 : DV) : P_term_typed R x0 x1 =
  (og (isAggN 3 x1) <|
  oif x0
   (ob (R.p F_typ_Check [(.agg [(proj 0 x1), (proj 1 x1), (proj 2 x1)])]) fun d1 =>
   ob (dBin .eql d1 (.int .i64 0)) fun d2 =>
   some d2)
   (ob (R.p F_term_none [(.agg [(proj 0 x1), (proj 1 x1), (proj 2 x1)])]) fun d3 =>
   some d3)) := evP_of [] (by kernel_rfl)
theorem call_term_typed (x0 : DV) (x1 : DV) {d : DV} (h : P_term_typed (run cfg) x0 x1 = some d) : (run cfg).p F_term_typed [x0, x1] = some d :=
  run_pure (fn := Try.f175) (c := code_term_typed) (by kernel_rfl) Try.func175 (by kernel_rfl) ((show _ = P_term_typed (run cfg) x0 x1 by kernel_rfl).trans h)

/-! ### term_lists -/
noncomputable def code_term_lists : Code := Try.f176.body.getD .skip
noncomputable def P_term_lists (R : Orc) (x0 : DV) : Option DV := evP cfg R fl_term_lists (retP cfg.P Try.f176) [] code_term_lists (initSt Try.f176 [(x0, .val)] [])
noncomputable def P_term_lists_2h (R : Orc) (t10 : DV) (t11 : DV) (t12 : DV) (b1 : DV) : Option DV := headP cfg R fl_term_lists (retP cfg.P Try.f176) [true, false, true, false] code_term_lists ⟨spread .undef 45 0 [(10, t10), (11, t11), (12, t12)], spread .val 45 0 [(1, (.loc 1 0))], spread none 45 0 [(1, some [((proj 0 b1), .val), ((proj 1 b1), .val), ((proj 2 b1), .val), ((proj 3 b1), .val), ((proj 4 b1), .val), ((proj 5 b1), .val), ((proj 6 b1), .val), ((proj 7 b1), .val), ((proj 8 b1), .val), ((proj 9 b1), .val), ((proj 10 b1), .val), ((proj 11 b1), .val), ((proj 12 b1), .val), ((proj 13 b1), .val), ((proj 14 b1), .val), ((proj 15 b1), .val), ((proj 16 b1), .val), ((proj 17 b1), .val), ((proj 18 b1), .val), ((proj 19 b1), .val)])], []⟩
noncomputable def P_term_lists_8h (R : Orc) (t24 : DV) (t25 : DV) (t26 : DV) (b1 : DV) : Option DV := headP cfg R fl_term_lists (retP cfg.P Try.f176) [true, true, false, true, false] code_term_lists ⟨spread .undef 45 0 [(24, t24), (25, t25), (26, t26)], spread .val 45 0 [(1, (.loc 1 0))], spread none 45 0 [(1, some [((proj 0 b1), .val), ((proj 1 b1), .val), ((proj 2 b1), .val), ((proj 3 b1), .val), ((proj 4 b1), .val), ((proj 5 b1), .val), ((proj 6 b1), .val), ((proj 7 b1), .val), ((proj 8 b1), .val), ((proj 9 b1), .val), ((proj 10 b1), .val), ((proj 11 b1), .val), ((proj 12 b1), .val), ((proj 13 b1), .val), ((proj 14 b1), .val), ((proj 15 b1), .val), ((proj 16 b1), .val), ((proj 17 b1), .val), ((proj 18 b1), .val), ((proj 19 b1), .val)])], []⟩
noncomputable def P_term_lists_14h (R : Orc) (t35 : DV) (t36 : DV) (t37 : DV) : Option DV := headP cfg R fl_term_lists (retP cfg.P Try.f176) [true, true, true, false, true, false] code_term_lists ⟨spread .undef 45 0 [(35, t35), (36, t36), (37, t37)], spread .val 45 0 [], spread none 45 0 [], []⟩
theorem eq_term_lists (R : Orc) (x0 : DV) : P_term_lists R x0 =
  (og (isAggN 20 x0) <|
  ob (dLen (proj 10 x0)) fun d1 =>
  P_term_lists_2h R (proj 10 x0) d1 (.int .i64 0) x0) := evP_of [] (by kernel_rfl)
theorem eq_term_lists_2h (R : Orc) (t10 : DV) (t11 : DV) (t12 : DV) (b1 : DV) : P_term_lists_2h R t10 t11 t12 b1 =
  (ob (dBin .lss t12 t11) fun d1 =>
  oif d1
   (ob (dIdx 1 t10 t12) fun d2 =>
   og (isLeaf d2) <|
   ob (dBin .lss d2 (.int .i64 0)) fun d3 =>
   ogd d3
    (some (.bool false))
    (ob (dBin .gtr d2 (.int .i64 1048576)) fun d4 =>
    oif d4
     (some (.bool false))
     (ob (dBin .add t12 (.int .i64 1)) fun d5 =>
     P_term_lists_2h R t10 t11 d5 b1))
    none)
   (ob (dLen (proj 17 b1)) fun d6 =>
   P_term_lists_8h R (proj 17 b1) d6 (.int .i64 0) b1)) := headP_of [] (by kernel_rfl)
theorem eq_term_lists_8h (R : Orc) (t24 : DV) (t25 : DV) (t26 : DV) (b1 : DV) : P_term_lists_8h R t24 t25 t26 b1 =
  (ob (dBin .lss t26 t25) fun d1 =>
  oif d1
   (ob (dIdx 3 t24 t26) fun d2 =>
   ob (R.p F_typ_Check [(.agg [(proj 0 d2), (proj 1 d2), (proj 2 d2)])]) fun d3 =>
   ob (dBin .neq d3 (.int .i64 0)) fun d4 =>
   oif d4
    (some (.bool false))
    (ob (dBin .add t26 (.int .i64 1)) fun d5 =>
    P_term_lists_8h R t24 t25 d5 b1))
   (ob (dLen (proj 18 b1)) fun d6 =>
   P_term_lists_14h R (proj 18 b1) d6 (.int .i64 0))) := headP_of [] (by kernel_rfl)
theorem eq_term_lists_14h (R : Orc) (t35 : DV) (t36 : DV) (t37 : DV) : P_term_lists_14h R t35 t36 t37 =
  (ob (dBin .lss t37 t36) fun d1 =>
  oif d1
   (ob (dIdx 7 t35 t37) fun d2 =>
   ob (R.p F_tree_CheckPat [(.agg [(proj 0 d2), (proj 1 d2), (proj 2 d2), (proj 3 d2), (proj 4 d2), (proj 5 d2), (proj 6 d2)])]) fun d3 =>
   ob (dBin .neq d3 (.int .i64 0)) fun d4 =>
   oif d4
    (some (.bool false))
    (ob (dBin .add t37 (.int .i64 1)) fun d5 =>
    P_term_lists_14h R t35 t36 d5))
   (some (.bool true))) := headP_of [] (by kernel_rfl)
theorem call_term_lists (x0 : DV) {d : DV} (h : P_term_lists (run cfg) x0 = some d) : (run cfg).p F_term_lists [x0] = some d :=
  run_pure (fn := Try.f176) (c := code_term_lists) (by kernel_rfl) Try.func176 (by kernel_rfl) ((show _ = P_term_lists (run cfg) x0 by kernel_rfl).trans h)

/-! ### typ_vars -/
noncomputable def code_typ_vars : Code := Try.f177.body.getD .skip
noncomputable def P_typ_vars (R : Orc) (x0 : DV) (x1 : Nat) (x2 : DV) (sg : List SObj) : Option (List DV × List SObj) := evP cfg R fl_typ_vars (retR cfg.P Try.f177 sig_typ_vars) [] code_typ_vars (initSt Try.f177 [(x0, .val), (.undef, (.map x1)), (x2, .own)] sg)
noncomputable def P_typ_vars_5 (R : Orc) (t1i : Nat) (t2 : DV) (b3 : DV) (sg : List SObj) : Option (List DV × List SObj) := evP cfg R fl_typ_vars (retR cfg.P Try.f177 sig_typ_vars) [true, true] code_typ_vars ⟨spread .undef 40 0 [(2, t2)], spread .val 40 0 [(1, (.map t1i)), (2, .own), (3, (.loc 3 0))], spread none 40 0 [(3, some [((proj 0 b3), .val), ((proj 1 b3), .val), ((proj 2 b3), .val)])], sg⟩
noncomputable def P_typ_vars_6h (R : Orc) (t1i : Nat) (t2 : DV) (t28 : DV) (t29 : DV) (t30 : DV) (sg : List SObj) : Option (List DV × List SObj) := headP cfg R fl_typ_vars (retR cfg.P Try.f177 sig_typ_vars) [true, true, false, true, false] code_typ_vars ⟨spread .undef 40 0 [(2, t2), (28, t28), (29, t29), (30, t30)], spread .val 40 0 [(1, (.map t1i)), (2, .own)], spread none 40 0 [], sg⟩
theorem eq_typ_vars (R : Orc) (x0 : DV) (x1 : Nat) (x2 : DV) (sg : List SObj) : P_typ_vars R x0 x1 x2 sg =
  (og (isAggN 3 x0) <|
  ob (dBin .eql (proj 0 x0) (.int .i64 6)) fun d1 =>
  oif d1
   (og (isKey false (proj 1 x0) && true) <|
   ob (sgMap sg x1) fun m2 =>
   og (m2.1 == false) <|
   ob (dBin .eql ((mGet m2.2 (proj 1 x0)).getD (.int .i64 0)) (.int .i64 0)) fun d3 =>
   oif d3
    (og (isCell (proj 1 x0)) <|
    ob (dApp 1 x2 (.list 1 [(proj 1 x0)])) fun d4 =>
    og (isKey false (proj 1 x0) && true) <|
    ob (sgMap sg x1) fun m5 =>
    og (m5.1 == false) <|
    ob (dBin .add ((mGet m5.2 (proj 1 x0)).getD (.int .i64 0)) (.int .i64 1)) fun d6 =>
    og (isKey false (proj 1 x0) && true && true) <|
    ob (sgMap sg x1) fun m7 =>
    og (m7.1 == false) <|
    P_typ_vars_5 R x1 d4 x0 (sg.set x1 (.map false (mSet m7.2 (proj 1 x0) d6))))
    (og (isKey false (proj 1 x0) && true) <|
    ob (sgMap sg x1) fun m8 =>
    og (m8.1 == false) <|
    ob (dBin .add ((mGet m8.2 (proj 1 x0)).getD (.int .i64 0)) (.int .i64 1)) fun d9 =>
    og (isKey false (proj 1 x0) && true && true) <|
    ob (sgMap sg x1) fun m10 =>
    og (m10.1 == false) <|
    P_typ_vars_5 R x1 x2 x0 (sg.set x1 (.map false (mSet m10.2 (proj 1 x0) d9)))))
   (P_typ_vars_5 R x1 x2 x0 sg)) := evP_of [5] (by kernel_rfl)
theorem eq_typ_vars_5 (R : Orc) (t1i : Nat) (t2 : DV) (b3 : DV) (sg : List SObj) : P_typ_vars_5 R t1i t2 b3 sg =
  (ob (dLen (proj 2 b3)) fun d1 =>
  P_typ_vars_6h R t1i t2 (proj 2 b3) d1 (.int .i64 0) sg) := evP_of [5] (by kernel_rfl)
theorem eq_typ_vars_6h (R : Orc) (t1i : Nat) (t2 : DV) (t28 : DV) (t29 : DV) (t30 : DV) (sg : List SObj) : P_typ_vars_6h R t1i t2 t28 t29 t30 sg =
  (ob (dBin .lss t30 t29) fun d1 =>
  oif d1
   (ob (dIdx 3 t28 t30) fun d2 =>
   ob (R.r F_typ_vars [((.agg [(proj 0 d2), (proj 1 d2), (proj 2 d2)]), .val), (.undef, (.map t1i)), (t2, .own)] sg) fun q3 =>
   ob (dBin .add t30 (.int .i64 1)) fun d4 =>
   P_typ_vars_6h R t1i (q3.1.getD 0 .undef) t28 t29 d4 q3.2)
   (some ([t2], sg))) := headP_of [5] (by kernel_rfl)
theorem call_typ_vars (x0 : DV) (x1 : Nat) (x2 : DV) (sg : List SObj) {q : List DV × List SObj} (h : P_typ_vars (run cfg) x0 x1 x2 sg = some q) : (run cfg).r F_typ_vars [(x0, .val), (.undef, (.map x1)), (x2, .own)] sg = some q :=
  run_raw (s := sig_typ_vars) (fn := Try.f177) (c := code_typ_vars) (by kernel_rfl) Try.func177 (by kernel_rfl) ((show _ = P_typ_vars (run cfg) x0 x1 x2 sg by kernel_rfl).trans h)

/-! ### slices_Contains__int_int -/
noncomputable def code_slices_Contains__int_int : Code := Try.f178.body.getD .skip
noncomputable def P_slices_Contains__int_int (R : Orc) (x0 : DV) (x1 : DV) : Option DV := evP cfg R fl_slices_Contains__int_int (retP cfg.P Try.f178) [] code_slices_Contains__int_int (initSt Try.f178 [(x0, .val), (x1, .val)] [])
theorem eq_slices_Contains__int_int (R : Orc) (x0 : DV) (x1 : DV) : P_slices_Contains__int_int R x0 x1 =
  (ob (R.p F_slices_Index__int_int [x0, x1]) fun d1 =>
  ob (dBin .geq d1 (.int .i64 0)) fun d2 =>
  some d2) := evP_of [] (by kernel_rfl)
theorem call_slices_Contains__int_int (x0 : DV) (x1 : DV) {d : DV} (h : P_slices_Contains__int_int (run cfg) x0 x1 = some d) : (run cfg).p F_slices_Contains__int_int [x0, x1] = some d :=
  run_pure (fn := Try.f178) (c := code_slices_Contains__int_int) (by kernel_rfl) Try.func178 (by kernel_rfl) ((show _ = P_slices_Contains__int_int (run cfg) x0 x1 by kernel_rfl).trans h)

/-! ### pats_bind -/
noncomputable def code_pats_bind : Code := Try.f179.body.getD .skip
noncomputable def P_pats_bind (R : Orc) (x0 : DV) (x1 : DV) (x2 : DV) (sg : List SObj) : Option (List DV × List SObj) := evP cfg R fl_pats_bind (retR cfg.P Try.f179 sig_pats_bind) [] code_pats_bind (initSt Try.f179 [(x0, .val), (x1, .val), (x2, .own)] sg)
noncomputable def P_pats_bind_16 (R : Orc) (t2 : DV) (t8 : DV) (b3 : DV) (sg : List SObj) : Option (List DV × List SObj) := evP cfg R fl_pats_bind (retR cfg.P Try.f179 sig_pats_bind) [true, true, true] code_pats_bind ⟨spread .undef 73 0 [(2, t2), (8, t8)], spread .val 73 0 [(2, .own), (3, (.loc 3 0))], spread none 73 0 [(3, some [((proj 0 b3), .val), ((proj 1 b3), .val), ((proj 2 b3), .val), ((proj 3 b3), .val), ((proj 4 b3), .val), ((proj 5 b3), .val), ((proj 6 b3), .val)])], sg⟩
noncomputable def P_pats_bind_17h (R : Orc) (t2 : DV) (t8 : DV) (t52 : DV) (t53 : DV) (t54 : DV) (sg : List SObj) : Option (List DV × List SObj) := headP cfg R fl_pats_bind (retR cfg.P Try.f179 sig_pats_bind) [true, true, true, false, true, false] code_pats_bind ⟨spread .undef 73 0 [(2, t2), (8, t8), (52, t52), (53, t53), (54, t54)], spread .val 73 0 [(2, .own)], spread none 73 0 [], sg⟩
theorem eq_pats_bind (R : Orc) (x0 : DV) (x1 : DV) (x2 : DV) (sg : List SObj) : P_pats_bind R x0 x1 x2 sg =
  (og (isAggN 7 x0) <|
  og (isAggN 3 x1) <|
  ob (dBin .eql (proj 0 x0) (.int .i64 1)) fun d1 =>
  oif d1
   (some ([x2, (.bool true)], sg))
   (ob (dBin .eql (proj 0 x0) (.int .i64 2)) fun d2 =>
   oif d2
    (og (isCell (proj 3 x0)) <|
    ob (dApp 4 x2 (.list 4 [(.agg [(proj 3 x0), (proj 0 x1), (proj 1 x1), (proj 2 x1)])])) fun d3 =>
    some ([d3, (.bool true)], sg))
    (ob (dBin .eql (proj 0 x0) (.int .i64 7)) fun d4 =>
    oif d4
     (ob (dBin .neq (proj 0 x1) (.int .i64 7)) fun d5 =>
     oif d5
      (some ([(.list 4 []), (.bool false)], sg))
      (P_pats_bind_16 R x2 (proj 2 x1) x0 sg))
     (ob (dBin .eql (proj 0 x0) (.int .i64 9)) fun d6 =>
     oif d6
      (ob (dBin .neq (proj 0 x1) (.int .i64 8)) fun d7 =>
      oif d7
       (some ([(.list 4 []), (.bool false)], sg))
       (ob (dIdx 3 (proj 2 x1) (.int .i64 0)) fun d8 =>
       P_pats_bind_16 R x2 (.list 3 [(.agg [(proj 0 d8), (proj 1 d8), (proj 2 d8)]), (.agg [(proj 0 x1), (proj 1 x1), (proj 2 x1)])]) x0 sg))
      (ob (R.p F_pats_leaf [(proj 0 x0)]) fun d9 =>
      ob (dBin .eql (proj 0 x1) d9) fun d10 =>
      some ([x2, d10], sg)))))) := evP_of [16] (by kernel_rfl)
theorem eq_pats_bind_16 (R : Orc) (t2 : DV) (t8 : DV) (b3 : DV) (sg : List SObj) : P_pats_bind_16 R t2 t8 b3 sg =
  (ob (dLen (proj 6 b3)) fun d1 =>
  P_pats_bind_17h R t2 t8 (proj 6 b3) d1 (.int .i64 0) sg) := evP_of [16] (by kernel_rfl)
theorem eq_pats_bind_17h (R : Orc) (t2 : DV) (t8 : DV) (t52 : DV) (t53 : DV) (t54 : DV) (sg : List SObj) : P_pats_bind_17h R t2 t8 t52 t53 t54 sg =
  (ob (dBin .lss t54 t53) fun d1 =>
  oif d1
   (ob (dIdx 7 t52 t54) fun d2 =>
   ob (dIdx 3 t8 t54) fun d3 =>
   ob (R.r F_pats_bind [((.agg [(proj 0 d2), (proj 1 d2), (proj 2 d2), (proj 3 d2), (proj 4 d2), (proj 5 d2), (proj 6 d2)]), .val), ((.agg [(proj 0 d3), (proj 1 d3), (proj 2 d3)]), .val), (t2, .own)] sg) fun q4 =>
   ob (dExt 0 (.tup q4.1)) fun d5 =>
   ob (dExt 1 (.tup q4.1)) fun d6 =>
   ob (dUn .not d6) fun d7 =>
   oif d7
    (some ([(.list 4 []), (.bool false)], q4.2))
    (ob (dBin .add t54 (.int .i64 1)) fun d8 =>
    P_pats_bind_17h R d5 t8 t52 t53 d8 q4.2))
   (some ([t2, (.bool true)], sg))) := headP_of [16] (by kernel_rfl)
theorem call_pats_bind (x0 : DV) (x1 : DV) (x2 : DV) (sg : List SObj) {q : List DV × List SObj} (h : P_pats_bind (run cfg) x0 x1 x2 sg = some q) : (run cfg).r F_pats_bind [(x0, .val), (x1, .val), (x2, .own)] sg = some q :=
  run_raw (s := sig_pats_bind) (fn := Try.f179) (c := code_pats_bind) (by kernel_rfl) Try.func179 (by kernel_rfl) ((show _ = P_pats_bind (run cfg) x0 x1 x2 sg by kernel_rfl).trans h)

/-! ### agree_agrees -/
noncomputable def code_agree_agrees : Code := Try.f180.body.getD .skip
noncomputable def P_agree_agrees (R : Orc) (x0 : DV) (x1 : DV) : Option DV := evP cfg R fl_agree_agrees (retP cfg.P Try.f180) [] code_agree_agrees (initSt Try.f180 [(x0, .val), (x1, .val)] [])
noncomputable def P_agree_agrees_8h (R : Orc) (t33 : DV) (t34 : DV) (t35 : DV) (b3 : DV) : Option DV := headP cfg R fl_agree_agrees (retP cfg.P Try.f180) [true, true, false, true, false] code_agree_agrees ⟨spread .undef 49 0 [(33, t33), (34, t34), (35, t35)], spread .val 49 0 [(3, (.loc 3 0))], spread none 49 0 [(3, some [((proj 0 b3), .val), ((proj 1 b3), .val), ((proj 2 b3), .val)])], []⟩
theorem eq_agree_agrees (R : Orc) (x0 : DV) (x1 : DV) : P_agree_agrees R x0 x1 =
  (og (isAggN 3 x0) <|
  og (isAggN 3 x1) <|
  ob (dBin .eql (proj 0 x0) (.int .i64 5)) fun d1 =>
  oif d1
   (ob (R.p F_typ_Closed [(.agg [(proj 0 x1), (proj 1 x1), (proj 2 x1)])]) fun d2 =>
   some d2)
   (ob (dBin .eql (proj 0 x1) (.int .i64 5)) fun d3 =>
   oif d3
    (ob (R.p F_typ_Closed [(.agg [(proj 0 x0), (proj 1 x0), (proj 2 x0)])]) fun d4 =>
    some d4)
    (ob (dBin .neq (proj 0 x0) (proj 0 x1)) fun d5 =>
    ogd d5
     (some (.bool false))
     (ob (dBin .neq (proj 1 x0) (proj 1 x1)) fun d6 =>
     oif d6
      (some (.bool false))
      (ob (dLen (proj 2 x0)) fun d7 =>
      P_agree_agrees_8h R (proj 2 x0) d7 (.int .i64 0) x1))
     none))) := evP_of [] (by kernel_rfl)
theorem eq_agree_agrees_8h (R : Orc) (t33 : DV) (t34 : DV) (t35 : DV) (b3 : DV) : P_agree_agrees_8h R t33 t34 t35 b3 =
  (ob (dBin .lss t35 t34) fun d1 =>
  oif d1
   (ob (dIdx 3 t33 t35) fun d2 =>
   ob (dIdx 3 (proj 2 b3) t35) fun d3 =>
   ob (R.p F_agree_agrees [(.agg [(proj 0 d2), (proj 1 d2), (proj 2 d2)]), (.agg [(proj 0 d3), (proj 1 d3), (proj 2 d3)])]) fun d4 =>
   ob (dUn .not d4) fun d5 =>
   oif d5
    (some (.bool false))
    (ob (dBin .add t35 (.int .i64 1)) fun d6 =>
    P_agree_agrees_8h R t33 t34 d6 b3))
   (some (.bool true))) := headP_of [] (by kernel_rfl)
theorem call_agree_agrees (x0 : DV) (x1 : DV) {d : DV} (h : P_agree_agrees (run cfg) x0 x1 = some d) : (run cfg).p F_agree_agrees [x0, x1] = some d :=
  run_pure (fn := Try.f180) (c := code_agree_agrees) (by kernel_rfl) Try.func180 (by kernel_rfl) ((show _ = P_agree_agrees (run cfg) x0 x1 by kernel_rfl).trans h)

/-! ### typ_arity -/
noncomputable def code_typ_arity : Code := Try.f181.body.getD .skip
noncomputable def P_typ_arity (R : Orc) (x0 : DV) : Option DV := evP cfg R fl_typ_arity (retP cfg.P Try.f181) [] code_typ_arity (initSt Try.f181 [(x0, .val)] [])
theorem eq_typ_arity (R : Orc) (x0 : DV) : P_typ_arity R x0 =
  (ob (dBin .eql x0 (.int .i64 1)) fun d1 =>
  oif d1
   (some (.int .i64 0))
   (ob (dBin .eql x0 (.int .i64 2)) fun d2 =>
   oif d2
    (some (.int .i64 0))
    (ob (dBin .eql x0 (.int .i64 3)) fun d3 =>
    oif d3
     (some (.int .i64 0))
     (ob (dBin .eql x0 (.int .i64 4)) fun d4 =>
     oif d4
      (some (.int .i64 0))
      (ob (dBin .eql x0 (.int .i64 5)) fun d5 =>
      oif d5
       (some (.int .i64 0))
       (ob (dBin .eql x0 (.int .i64 6)) fun d6 =>
       oif d6
        (some (.int .i64 0))
        (ob (dBin .eql x0 (.int .i64 8)) fun d7 =>
        oif d7
         (some (.int .i64 1))
         (ob (dBin .eql x0 (.int .i64 7)) fun d8 =>
         oif d8
          (some (.int .i64 2))
          (ob (dBin .eql x0 (.int .i64 9)) fun d9 =>
          oif d9
           (some (.int .i64 2))
           (some (.int .i64 (-1)))))))))))) := evP_of [] (by kernel_rfl)
theorem call_typ_arity (x0 : DV) {d : DV} (h : P_typ_arity (run cfg) x0 = some d) : (run cfg).p F_typ_arity [x0] = some d :=
  run_pure (fn := Try.f181) (c := code_typ_arity) (by kernel_rfl) Try.func181 (by kernel_rfl) ((show _ = P_typ_arity (run cfg) x0 by kernel_rfl).trans h)

/-! ### typ_without -/
noncomputable def code_typ_without : Code := Try.f193.body.getD .skip
noncomputable def P_typ_without (R : Orc) (x0 : DV) (x1 : DV) : Option DV := evP cfg R fl_typ_without (retP cfg.P Try.f193) [] code_typ_without (initSt Try.f193 [(x0, .val), (x1, .val)] [])
noncomputable def P_typ_without_4h (R : Orc) (t1 : DV) (t12 : DV) (t13 : DV) (t14 : DV) : Option DV := headP cfg R fl_typ_without (retP cfg.P Try.f193) [true, true, false, true, false] code_typ_without ⟨spread .undef 23 0 [(1, t1), (12, t12), (13, t13), (14, t14)], spread .val 23 0 [], spread none 23 0 [], []⟩
theorem eq_typ_without (R : Orc) (x0 : DV) (x1 : DV) : P_typ_without R x0 x1 =
  (og (isAggN 3 x0) <|
  ob (dBin .eql (proj 0 x0) x1) fun d1 =>
  oif d1
   (some (.bool false))
   (ob (dLen (proj 2 x0)) fun d2 =>
   P_typ_without_4h R x1 (proj 2 x0) d2 (.int .i64 0))) := evP_of [] (by kernel_rfl)
theorem eq_typ_without_4h (R : Orc) (t1 : DV) (t12 : DV) (t13 : DV) (t14 : DV) : P_typ_without_4h R t1 t12 t13 t14 =
  (ob (dBin .lss t14 t13) fun d1 =>
  oif d1
   (ob (dIdx 3 t12 t14) fun d2 =>
   ob (R.p F_typ_without [(.agg [(proj 0 d2), (proj 1 d2), (proj 2 d2)]), t1]) fun d3 =>
   ob (dUn .not d3) fun d4 =>
   oif d4
    (some (.bool false))
    (ob (dBin .add t14 (.int .i64 1)) fun d5 =>
    P_typ_without_4h R t1 t12 t13 d5))
   (some (.bool true))) := headP_of [] (by kernel_rfl)
theorem call_typ_without (x0 : DV) (x1 : DV) {d : DV} (h : P_typ_without (run cfg) x0 x1 = some d) : (run cfg).p F_typ_without [x0, x1] = some d :=
  run_pure (fn := Try.f193) (c := code_typ_without) (by kernel_rfl) Try.func193 (by kernel_rfl) ((show _ = P_typ_without (run cfg) x0 x1 by kernel_rfl).trans h)

/-! ### r05_SamePat -/
noncomputable def code_r05_SamePat : Code := Try.f200.body.getD .skip
noncomputable def P_r05_SamePat (R : Orc) (x0 : DV) (x1 : DV) : Option DV := evP cfg R fl_r05_SamePat (retP cfg.P Try.f200) [] code_r05_SamePat (initSt Try.f200 [(x0, .val), (x1, .val)] [])
noncomputable def P_r05_SamePat_4h (R : Orc) (t5 : DV) (b2 : DV) (b3 : DV) : Option DV := headP cfg R fl_r05_SamePat (retP cfg.P Try.f200) [true, true, false, true, false] code_r05_SamePat ⟨spread .undef 60 0 [(5, t5)], spread .val 60 0 [(2, (.loc 2 0)), (3, (.loc 3 0))], spread none 60 0 [(2, some [((proj 0 b2), .val), ((proj 1 b2), .val), ((proj 2 b2), .val), ((proj 3 b2), .val), ((proj 4 b2), .val), ((proj 5 b2), .val), ((proj 6 b2), .val)]), (3, some [((proj 0 b3), .val), ((proj 1 b3), .val), ((proj 2 b3), .val), ((proj 3 b3), .val), ((proj 4 b3), .val), ((proj 5 b3), .val), ((proj 6 b3), .val)])], []⟩
set_option maxRecDepth 100000 in
theorem eq_r05_SamePat (R : Orc) (x0 : DV) (x1 : DV) : P_r05_SamePat R x0 x1 =
  (og (isAggN 7 x0) <|
  og (isAggN 7 x1) <|
  ob (dBin .neq (proj 0 x0) (proj 0 x1)) fun d1 =>
  ogd d1
   (some (.bool false))
   (ob (dBin .neq (proj 3 x0) (proj 3 x1)) fun d2 =>
   ogd d2
    (some (.bool false))
    (ob (dBin .neq (proj 4 x0) (proj 4 x1)) fun d3 =>
    ogd d3
     (some (.bool false))
     (ob (dBin .neq (proj 5 x0) (proj 5 x1)) fun d4 =>
     ogd d4
      (some (.bool false))
      (ob (dLen (proj 6 x0)) fun d5 =>
      ob (dLen (proj 6 x1)) fun d6 =>
      ob (dBin .neq d5 d6) fun d7 =>
      oif d7
       (some (.bool false))
       (P_r05_SamePat_4h R (.int .i64 0) x0 x1))
      none)
     none)
    none)
   none) := evP_of [] (by kernel_rfl)
theorem eq_r05_SamePat_4h (R : Orc) (t5 : DV) (b2 : DV) (b3 : DV) : P_r05_SamePat_4h R t5 b2 b3 =
  (ob (dLen (proj 6 b2)) fun d1 =>
  ob (dBin .lss t5 d1) fun d2 =>
  oif d2
   (ob (dIdx 7 (proj 6 b2) t5) fun d3 =>
   ob (dIdx 7 (proj 6 b3) t5) fun d4 =>
   ob (R.p F_r05_SamePat [(.agg [(proj 0 d3), (proj 1 d3), (proj 2 d3), (proj 3 d3), (proj 4 d3), (proj 5 d3), (proj 6 d3)]), (.agg [(proj 0 d4), (proj 1 d4), (proj 2 d4), (proj 3 d4), (proj 4 d4), (proj 5 d4), (proj 6 d4)])]) fun d5 =>
   ob (dUn .not d5) fun d6 =>
   oif d6
    (some (.bool false))
    (ob (dBin .add t5 (.int .i64 1)) fun d7 =>
    P_r05_SamePat_4h R d7 b2 b3))
   (some (.bool true))) := headP_of [] (by kernel_rfl)
theorem call_r05_SamePat (x0 : DV) (x1 : DV) {d : DV} (h : P_r05_SamePat (run cfg) x0 x1 = some d) : (run cfg).p F_r05_SamePat [x0, x1] = some d :=
  run_pure (fn := Try.f200) (c := code_r05_SamePat) (by kernel_rfl) Try.func200 (by kernel_rfl) ((show _ = P_r05_SamePat (run cfg) x0 x1 by kernel_rfl).trans h)

/-! ### term_none -/
noncomputable def code_term_none : Code := Try.f201.body.getD .skip
noncomputable def P_term_none (R : Orc) (x0 : DV) : Option DV := evP cfg R fl_term_none (retP cfg.P Try.f201) [] code_term_none (initSt Try.f201 [(x0, .val)] [])
theorem eq_term_none (R : Orc) (x0 : DV) : P_term_none R x0 =
  (og (isAggN 3 x0) <|
  ob (dBin .eql (proj 0 x0) (.int .i64 0)) fun d1 =>
  ogd d1
   (ob (dBin .eql (proj 1 x0) (.int .i64 0)) fun d2 =>
   ogd d2
    (ob (dLen (proj 2 x0)) fun d3 =>
    ob (dBin .eql d3 (.int .i64 0)) fun d4 =>
    some d4)
    (some (.bool false))
    none)
   (some (.bool false))
   none) := evP_of [] (by kernel_rfl)
theorem call_term_none (x0 : DV) {d : DV} (h : P_term_none (run cfg) x0 = some d) : (run cfg).p F_term_none [x0] = some d :=
  run_pure (fn := Try.f201) (c := code_term_none) (by kernel_rfl) Try.func201 (by kernel_rfl) ((show _ = P_term_none (run cfg) x0 by kernel_rfl).trans h)

/-! ### slices_Index__int_int -/
noncomputable def code_slices_Index__int_int : Code := Try.f202.body.getD .skip
noncomputable def P_slices_Index__int_int (R : Orc) (x0 : DV) (x1 : DV) : Option DV := evP cfg R fl_slices_Index__int_int (retP cfg.P Try.f202) [] code_slices_Index__int_int (initSt Try.f202 [(x0, .val), (x1, .val)] [])
noncomputable def P_slices_Index__int_int_2h (R : Orc) (t0 : DV) (t1 : DV) (t7 : DV) (t8 : DV) : Option DV := headP cfg R fl_slices_Index__int_int (retP cfg.P Try.f202) [true, false, true, false] code_slices_Index__int_int ⟨spread .undef 19 0 [(0, t0), (1, t1), (7, t7), (8, t8)], spread .val 19 0 [], spread none 19 0 [], []⟩
theorem eq_slices_Index__int_int (R : Orc) (x0 : DV) (x1 : DV) : P_slices_Index__int_int R x0 x1 =
  (ob (dLen x0) fun d1 =>
  P_slices_Index__int_int_2h R x0 x1 d1 (.int .i64 0)) := evP_of [] (by kernel_rfl)
theorem eq_slices_Index__int_int_2h (R : Orc) (t0 : DV) (t1 : DV) (t7 : DV) (t8 : DV) : P_slices_Index__int_int_2h R t0 t1 t7 t8 =
  (ob (dBin .lss t8 t7) fun d1 =>
  oif d1
   (ob (dIdx 1 t0 t8) fun d2 =>
   og (isLeaf d2) <|
   ob (dBin .eql t1 d2) fun d3 =>
   oif d3
    (some t8)
    (ob (dBin .add t8 (.int .i64 1)) fun d4 =>
    P_slices_Index__int_int_2h R t0 t1 t7 d4))
   (some (.int .i64 (-1)))) := headP_of [] (by kernel_rfl)
theorem call_slices_Index__int_int (x0 : DV) (x1 : DV) {d : DV} (h : P_slices_Index__int_int (run cfg) x0 x1 = some d) : (run cfg).p F_slices_Index__int_int [x0, x1] = some d :=
  run_pure (fn := Try.f202) (c := code_slices_Index__int_int) (by kernel_rfl) Try.func202 (by kernel_rfl) ((show _ = P_slices_Index__int_int (run cfg) x0 x1 by kernel_rfl).trans h)

/-! ### pats_leaf -/
noncomputable def code_pats_leaf : Code := Try.f203.body.getD .skip
noncomputable def P_pats_leaf (R : Orc) (x0 : DV) : Option DV := evP cfg R fl_pats_leaf (retP cfg.P Try.f203) [] code_pats_leaf (initSt Try.f203 [(x0, .val)] [])
theorem eq_pats_leaf (R : Orc) (x0 : DV) : P_pats_leaf R x0 =
  (ob (dBin .eql x0 (.int .i64 3)) fun d1 =>
  oif d1
   (some (.int .i64 1))
   (ob (dBin .eql x0 (.int .i64 4)) fun d2 =>
   oif d2
    (some (.int .i64 2))
    (ob (dBin .eql x0 (.int .i64 5)) fun d3 =>
    oif d3
     (some (.int .i64 3))
     (ob (dBin .eql x0 (.int .i64 6)) fun d4 =>
     oif d4
      (some (.int .i64 4))
      (ob (dBin .eql x0 (.int .i64 8)) fun d5 =>
      oif d5
       (some (.int .i64 8))
       (some (.int .i64 0))))))) := evP_of [] (by kernel_rfl)
theorem call_pats_leaf (x0 : DV) {d : DV} (h : P_pats_leaf (run cfg) x0 = some d) : (run cfg).p F_pats_leaf [x0] = some d :=
  run_pure (fn := Try.f203) (c := code_pats_leaf) (by kernel_rfl) Try.func203 (by kernel_rfl) ((show _ = P_pats_leaf (run cfg) x0 by kernel_rfl).trans h)

end Go.Su
