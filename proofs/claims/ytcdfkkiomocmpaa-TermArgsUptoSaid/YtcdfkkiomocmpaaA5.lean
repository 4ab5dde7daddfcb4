/-
  Parts of the proof, merged: G1, G2, G3, G4, T0.
-/
import Derived.Test.YtcdfkkiomocmpaaA4
set_option linter.unusedVariables false
set_option linter.unusedSimpArgs false
/-
  Equations of the program's functions: by program.
-/
namespace Go.Su
open Go.Proofs
set_option linter.unusedVariables false

noncomputable def code_l17_TermArgs : Code := Try.f3.body.getD .skip
noncomputable def P_l17_TermArgs (R : Orc) (x0 : DV) (x1 : DV) (x2 : DV) : Option DV := evP cfg R fl_l17_TermArgs (retP cfg.P Try.f3) [] code_l17_TermArgs (initSt Try.f3 [(x0, .val), (x1, .val), (x2, .val)] [])
noncomputable def P_l17_TermArgs_8 (R : Orc) (t2 : DV) (t10 : DV) (t12 : DV) (b3 : DV) (b4 : DV) (b7_0 : DV) (b7_1 : DV) (b7_2 : DV) (b7_3 : DV) (b7_4 : DV) (b7_5 : DV) (b7_6 : DV) (b7_7 : DV) (b7_8 : DV) (b7_9 : DV) (b7_10 : DV) (b7_11 : DV) (b7_12 : DV) (b7_13 : DV) (b7_14 : DV) (b7_15 : DV) (b7_16 : DV) (b7_17 : DV) (b7_18 : DV) (b7_19 : DV) (b8_0 : DV) (b8_1 : DV) (b8_2 : DV) (b8_3 : DV) (b8_4 : DV) (b8_5 : DV) (b8_6 : DV) (b8_7 : DV) (b8_8 : DV) (b8_9 : DV) (b8_10 : DV) (b8_11 : DV) (b8_12 : DV) (b8_13 : DV) (b8_14 : DV) (b8_15 : DV) (b8_16 : DV) (b8_17 : DV) (b8_18 : DV) (b8_19 : DV) (b9 : DV) : Option DV := evP cfg R fl_l17_TermArgs (retP cfg.P Try.f3) [true, true, true, true, true, true, true] code_l17_TermArgs ⟨spread .undef 124 0 [(2, t2), (10, t10), (12, t12)], spread .val 124 0 [(3, (.loc 3 0)), (4, (.loc 4 0)), (7, (.loc 7 0)), (8, (.loc 8 0)), (9, (.loc 9 0))], spread none 124 0 [(3, some [((proj 0 b3), .val), ((proj 1 b3), .val), ((proj 2 b3), .val)]), (4, some [((proj 0 b4), .val), ((proj 1 b4), .val), ((proj 2 b4), .val)]), (7, some [(b7_0, .val), (b7_1, .val), (b7_2, .val), (b7_3, .val), (b7_4, .val), (b7_5, .val), (b7_6, .val), (b7_7, .val), (b7_8, .val), (b7_9, .val), (b7_10, .val), (b7_11, .val), (b7_12, .val), (b7_13, .val), (b7_14, .val), (b7_15, .val), (b7_16, .val), (b7_17, .val), (b7_18, .val), (b7_19, .val)]), (8, some [(b8_0, .val), (b8_1, .val), (b8_2, .val), (b8_3, .val), (b8_4, .val), (b8_5, .val), (b8_6, .val), (b8_7, .val), (b8_8, .val), (b8_9, .val), (b8_10, .val), (b8_11, .val), (b8_12, .val), (b8_13, .val), (b8_14, .val), (b8_15, .val), (b8_16, .val), (b8_17, .val), (b8_18, .val), (b8_19, .val)]), (9, some [((proj 0 b9), .val), ((proj 1 b9), .val), ((proj 2 b9), .val), ((proj 3 b9), .val), ((proj 4 b9), .val), ((proj 5 b9), .val), ((proj 6 b9), .val), ((proj 7 b9), .val), ((proj 8 b9), .val), ((proj 9 b9), .val), ((proj 10 b9), .val), ((proj 11 b9), .val), ((proj 12 b9), .val), ((proj 13 b9), .val), ((proj 14 b9), .val), ((proj 15 b9), .val), ((proj 16 b9), .val), ((proj 17 b9), .val), ((proj 18 b9), .val), ((proj 19 b9), .val)])], []⟩
noncomputable def P_l17_TermArgs_9 (R : Orc) (t10 : DV) (t12 : DV) (t14 : DV) (b3 : DV) (b4 : DV) (b8_0 : DV) (b8_1 : DV) (b8_2 : DV) (b8_3 : DV) (b8_4 : DV) (b8_5 : DV) (b8_6 : DV) (b8_7 : DV) (b8_8 : DV) (b8_9 : DV) (b8_10 : DV) (b8_11 : DV) (b8_12 : DV) (b8_13 : DV) (b8_14 : DV) (b8_15 : DV) (b8_16 : DV) (b8_17 : DV) (b8_18 : DV) (b8_19 : DV) (b9 : DV) : Option DV := evP cfg R fl_l17_TermArgs (retP cfg.P Try.f3) [true, true, true, true, true, true, true, true] code_l17_TermArgs ⟨spread .undef 124 0 [(10, t10), (12, t12), (14, t14)], spread .val 124 0 [(3, (.loc 3 0)), (4, (.loc 4 0)), (8, (.loc 8 0)), (9, (.loc 9 0))], spread none 124 0 [(3, some [((proj 0 b3), .val), ((proj 1 b3), .val), ((proj 2 b3), .val)]), (4, some [((proj 0 b4), .val), ((proj 1 b4), .val), ((proj 2 b4), .val)]), (8, some [(b8_0, .val), (b8_1, .val), (b8_2, .val), (b8_3, .val), (b8_4, .val), (b8_5, .val), (b8_6, .val), (b8_7, .val), (b8_8, .val), (b8_9, .val), (b8_10, .val), (b8_11, .val), (b8_12, .val), (b8_13, .val), (b8_14, .val), (b8_15, .val), (b8_16, .val), (b8_17, .val), (b8_18, .val), (b8_19, .val)]), (9, some [((proj 0 b9), .val), ((proj 1 b9), .val), ((proj 2 b9), .val), ((proj 3 b9), .val), ((proj 4 b9), .val), ((proj 5 b9), .val), ((proj 6 b9), .val), ((proj 7 b9), .val), ((proj 8 b9), .val), ((proj 9 b9), .val), ((proj 10 b9), .val), ((proj 11 b9), .val), ((proj 12 b9), .val), ((proj 13 b9), .val), ((proj 14 b9), .val), ((proj 15 b9), .val), ((proj 16 b9), .val), ((proj 17 b9), .val), ((proj 18 b9), .val), ((proj 19 b9), .val)])], []⟩
set_option maxRecDepth 100000 in
theorem eq_l17_TermArgs (R : Orc) (x0 : DV) (x1 : DV) (x2 : DV) : P_l17_TermArgs R x0 x1 x2 =
  (og (isAggN 3 x0) <|
  og (isAggN 3 x1) <|
  ob (R.p F_l17_light [(.agg [(proj 0 x0), (proj 1 x0), (proj 2 x0)])]) fun d1 =>
  ob (dUn .not d1) fun d2 =>
  ogd d2
   (some (.bool true))
   (ob (R.p F_l17_light [(.agg [(proj 0 x1), (proj 1 x1), (proj 2 x1)])]) fun d3 =>
   ob (dUn .not d3) fun d4 =>
   ogd d4
    (some (.bool true))
    (ob (R.p F_r03_Right [(.agg [(proj 0 x0), (proj 1 x0), (proj 2 x0)])]) fun d5 =>
    ob (dUn .not d5) fun d6 =>
    ogd d6
     (some (.bool true))
     (ob (R.p F_r03_Right [(.agg [(proj 0 x1), (proj 1 x1), (proj 2 x1)])]) fun d7 =>
     ob (dUn .not d7) fun d8 =>
     oif d8
      (some (.bool true))
      (ob (R.p F_keep_Int [x2, (.int .i64 1000)]) fun d9 =>
      og (isCell d9) <|
      ob (R.p F_l17_name [(.str ⟨#[122]⟩), (.list 3 [])]) fun d10 =>
      og (isAggN 20 d10) <|
      ob (R.p F_l17_name [(.str ⟨#[102]⟩), (.list 3 [(.agg [(proj 0 x0), (proj 1 x0), (proj 2 x0)])])]) fun d11 =>
      ob (R.p F_l17_name [(.str ⟨#[102]⟩), (.list 3 [(.agg [(proj 0 x1), (proj 1 x1), (proj 2 x1)])])]) fun d12 =>
      og (isAggN 20 d11) <|
      og (isAggN 20 d12) <|
      og (isCell d9) <|
      ob (R.p F_term_Put [(.agg [(.int .i64 6), (.int .i64 0), (.int .i64 0), (.str ⟨#[]⟩), (.str ⟨#[]⟩), (.int .i64 0), (.str ⟨#[]⟩), (.int .i64 0), (.int .i64 0), (.bool false), (.list 1 []), (.int .i64 0), (.int .i64 0), (.list 3 []), (.int .i64 0), (.int .i64 0), (.list 3 []), (.list 3 []), (.list 7 []), (.list 20 [d11, d12])]), (.str ⟨#[102]⟩), (.list 1 [d9]), (.agg [(.int .i64 9), (.int .i64 0), (.int .i64 0), (.str ⟨#[122]⟩), (.str ⟨#[]⟩), (.int .i64 0), (.str ⟨#[]⟩), (.int .i64 0), (.int .i64 0), (.bool false), (.list 1 []), (.int .i64 6), d9, (.list 3 []), (.int .i64 0), (.int .i64 0), (.list 3 []), (.list 3 []), (.list 7 []), (.list 20 [d10])])]) fun d13 =>
      ob (dExt 0 d13) fun d14 =>
      ob (dExt 1 d13) fun d15 =>
      og (isAggN 20 d14) <|
      ob (R.p F_term_Put [(.agg [(.int .i64 6), (.int .i64 0), (.int .i64 0), (.str ⟨#[]⟩), (.str ⟨#[]⟩), (.int .i64 0), (.str ⟨#[]⟩), (.int .i64 0), (.int .i64 0), (.bool false), (.list 1 []), (.int .i64 0), (.int .i64 0), (.list 3 []), (.int .i64 0), (.int .i64 0), (.list 3 []), (.list 3 []), (.list 7 []), (.list 20 [d11, d12])]), (.str ⟨#[102]⟩), (.list 1 []), (.agg [(.int .i64 9), (.int .i64 0), (.int .i64 0), (.str ⟨#[122]⟩), (.str ⟨#[]⟩), (.int .i64 0), (.str ⟨#[]⟩), (.int .i64 0), (.int .i64 0), (.bool false), (.list 1 []), (.int .i64 6), d9, (.list 3 []), (.int .i64 0), (.int .i64 0), (.list 3 []), (.list 3 []), (.list 7 []), (.list 20 [d10])])]) fun d16 =>
      ob (dExt 0 d16) fun d17 =>
      ob (dExt 1 d16) fun d18 =>
      og (isAggN 20 d17) <|
      P_l17_TermArgs_8 R d9 d15 d18 x0 x1 (.int .i64 9) (.int .i64 0) (.int .i64 0) (.str ⟨#[122]⟩) (.str ⟨#[]⟩) (.int .i64 0) (.str ⟨#[]⟩) (.int .i64 0) (.int .i64 0) (.bool false) (.list 1 []) (.int .i64 6) d9 (.list 3 []) (.int .i64 0) (.int .i64 0) (.list 3 []) (.list 3 []) (.list 7 []) (.list 20 [d10]) (.int .i64 6) (.int .i64 0) (.int .i64 0) (.str ⟨#[]⟩) (.str ⟨#[]⟩) (.int .i64 0) (.str ⟨#[]⟩) (.int .i64 0) (.int .i64 0) (.bool false) (.list 1 []) (.int .i64 0) (.int .i64 0) (.list 3 []) (.int .i64 0) (.int .i64 0) (.list 3 []) (.list 3 []) (.list 7 []) (.list 20 [d11, d12]) d14))
     none)
    none)
   none) := evP_of [8, 9] (by kernel_rfl)
theorem eq_l17_TermArgs_8 (R : Orc) (t2 : DV) (t10 : DV) (t12 : DV) (b3 : DV) (b4 : DV) (b7_0 : DV) (b7_1 : DV) (b7_2 : DV) (b7_3 : DV) (b7_4 : DV) (b7_5 : DV) (b7_6 : DV) (b7_7 : DV) (b7_8 : DV) (b7_9 : DV) (b7_10 : DV) (b7_11 : DV) (b7_12 : DV) (b7_13 : DV) (b7_14 : DV) (b7_15 : DV) (b7_16 : DV) (b7_17 : DV) (b7_18 : DV) (b7_19 : DV) (b8_0 : DV) (b8_1 : DV) (b8_2 : DV) (b8_3 : DV) (b8_4 : DV) (b8_5 : DV) (b8_6 : DV) (b8_7 : DV) (b8_8 : DV) (b8_9 : DV) (b8_10 : DV) (b8_11 : DV) (b8_12 : DV) (b8_13 : DV) (b8_14 : DV) (b8_15 : DV) (b8_16 : DV) (b8_17 : DV) (b8_18 : DV) (b8_19 : DV) (b9 : DV) : P_l17_TermArgs_8 R t2 t10 t12 b3 b4 b7_0 b7_1 b7_2 b7_3 b7_4 b7_5 b7_6 b7_7 b7_8 b7_9 b7_10 b7_11 b7_12 b7_13 b7_14 b7_15 b7_16 b7_17 b7_18 b7_19 b8_0 b8_1 b8_2 b8_3 b8_4 b8_5 b8_6 b8_7 b8_8 b8_9 b8_10 b8_11 b8_12 b8_13 b8_14 b8_15 b8_16 b8_17 b8_18 b8_19 b9 =
  (ob (R.p F_l17_name [(.str ⟨#[102]⟩), (.list 3 [])]) fun d1 =>
  ob (R.p F_l17_name [(.str ⟨#[102]⟩), (.list 3 [(.agg [(proj 0 b3), (proj 1 b3), (proj 2 b3)]), (.agg [(proj 0 b4), (proj 1 b4), (proj 2 b4)])])]) fun d2 =>
  og (isAggN 20 d1) <|
  og (isAggN 20 d2) <|
  og (isCell t2) <|
  ob (R.p F_term_Put [(.agg [(.int .i64 6), (.int .i64 0), (.int .i64 0), (.str ⟨#[]⟩), (.str ⟨#[]⟩), (.int .i64 0), (.str ⟨#[]⟩), (.int .i64 0), (.int .i64 0), (.bool false), (.list 1 []), (.int .i64 0), (.int .i64 0), (.list 3 []), (.int .i64 0), (.int .i64 0), (.list 3 []), (.list 3 []), (.list 7 []), (.list 20 [d1, d2])]), (.str ⟨#[102]⟩), (.list 1 [t2]), (.agg [b7_0, b7_1, b7_2, b7_3, b7_4, b7_5, b7_6, b7_7, b7_8, b7_9, b7_10, b7_11, b7_12, b7_13, b7_14, b7_15, b7_16, b7_17, b7_18, b7_19])]) fun d3 =>
  ob (dExt 0 d3) fun d4 =>
  ob (dExt 1 d3) fun d5 =>
  og (isAggN 20 d4) <|
  P_l17_TermArgs_9 R t10 t12 d5 b3 b4 b8_0 b8_1 b8_2 b8_3 b8_4 b8_5 b8_6 b8_7 b8_8 b8_9 b8_10 b8_11 b8_12 b8_13 b8_14 b8_15 b8_16 b8_17 b8_18 b8_19 b9) := evP_of [8, 9] (by kernel_rfl)
set_option maxRecDepth 100000 in
theorem eq_l17_TermArgs_9 (R : Orc) (t10 : DV) (t12 : DV) (t14 : DV) (b3 : DV) (b4 : DV) (b8_0 : DV) (b8_1 : DV) (b8_2 : DV) (b8_3 : DV) (b8_4 : DV) (b8_5 : DV) (b8_6 : DV) (b8_7 : DV) (b8_8 : DV) (b8_9 : DV) (b8_10 : DV) (b8_11 : DV) (b8_12 : DV) (b8_13 : DV) (b8_14 : DV) (b8_15 : DV) (b8_16 : DV) (b8_17 : DV) (b8_18 : DV) (b8_19 : DV) (b9 : DV) : P_l17_TermArgs_9 R t10 t12 t14 b3 b4 b8_0 b8_1 b8_2 b8_3 b8_4 b8_5 b8_6 b8_7 b8_8 b8_9 b8_10 b8_11 b8_12 b8_13 b8_14 b8_15 b8_16 b8_17 b8_18 b8_19 b9 =
  (ob (dBin .eql t10 (.int .i64 0)) fun d1 =>
  ogd d1
   (ob (dLen (proj 19 b9)) fun d2 =>
   ob (dBin .eql d2 (.int .i64 2)) fun d3 =>
   ogd d3
    (ob (dIdx 20 (proj 19 b9) (.int .i64 0)) fun d4 =>
    ob (R.p F_keep_Same [(.agg [(proj 11 d4), (proj 12 d4), (proj 13 d4)]), (.agg [(proj 0 b3), (proj 1 b3), (proj 2 b3)])]) fun d5 =>
    ogd d5
     (ob (dIdx 20 (proj 19 b9) (.int .i64 1)) fun d6 =>
     ob (R.p F_keep_Same [(.agg [(proj 11 d6), (proj 12 d6), (proj 13 d6)]), (.agg [(proj 0 b4), (proj 1 b4), (proj 2 b4)])]) fun d7 =>
     ogd d7
      (ob (R.p F_term_Free [(.agg [b8_0, b8_1, b8_2, b8_3, b8_4, b8_5, b8_6, b8_7, b8_8, b8_9, b8_10, b8_11, b8_12, b8_13, b8_14, b8_15, b8_16, b8_17, b8_18, b8_19])]) fun d8 =>
      ob (R.p F_r05_Has [d8, (.str ⟨#[102]⟩)]) fun d9 =>
      ogd d9
       (ob (R.p F_term_Free [(.agg [(proj 0 b9), (proj 1 b9), (proj 2 b9), (proj 3 b9), (proj 4 b9), (proj 5 b9), (proj 6 b9), (proj 7 b9), (proj 8 b9), (proj 9 b9), (proj 10 b9), (proj 11 b9), (proj 12 b9), (proj 13 b9), (proj 14 b9), (proj 15 b9), (proj 16 b9), (proj 17 b9), (proj 18 b9), (proj 19 b9)])]) fun d10 =>
       ob (dLen d10) fun d11 =>
       ob (dBin .eql d11 (.int .i64 0)) fun d12 =>
       ogd d12
        (ob (dBin .eql t12 (.int .i64 8)) fun d13 =>
        ogd d13
         (ob (dBin .eql t14 (.int .i64 8)) fun d14 =>
         ogd d14
          (ob (R.p F_l17_wakes []) fun d15 =>
          some d15)
          (some (.bool false))
          none)
         (some (.bool false))
         none)
        (some (.bool false))
        none)
       (some (.bool false))
       none)
      (some (.bool false))
      none)
     (some (.bool false))
     none)
    (some (.bool false))
    none)
   (some (.bool false))
   none) := evP_of [8, 9] (by kernel_rfl)
theorem fix_l17_TermArgs (x0 : DV) (x1 : DV) (x2 : DV) : (run cfg).p F_l17_TermArgs [x0, x1, x2] = P_l17_TermArgs (run cfg) x0 x1 x2 :=
  (fix_pure (C := cfg) (f := F_l17_TermArgs) (fn := Try.f3) (c := code_l17_TermArgs) (by kernel_rfl) Try.func3 (by kernel_rfl)).trans (by kernel_rfl)
theorem call_l17_TermArgs (x0 : DV) (x1 : DV) (x2 : DV) {d : DV} (h : P_l17_TermArgs (run cfg) x0 x1 x2 = some d) : (run cfg).p F_l17_TermArgs [x0, x1, x2] = some d := (fix_l17_TermArgs x0 x1 x2).trans h

noncomputable def code_l17_light : Code := Try.f4.body.getD .skip
noncomputable def P_l17_light (R : Orc) (x0 : DV) : Option DV := evP cfg R fl_l17_light (retP cfg.P Try.f4) [] code_l17_light (initSt Try.f4 [(x0, .val)] [])
theorem eq_l17_light (R : Orc) (x0 : DV) : P_l17_light R x0 =
  (og (isAggN 3 x0) <|
  ob (R.p F_l11_Small [(.list 3 [(.agg [(proj 0 x0), (proj 1 x0), (proj 2 x0)])])]) fun d1 =>
  ogd d1
   (ob (R.p F_r03_Size [(.agg [(proj 0 x0), (proj 1 x0), (proj 2 x0)])]) fun d2 =>
   ob (dBin .leq d2 (.int .i64 60)) fun d3 =>
   some d3)
   (some (.bool false))
   none) := evP_of [] (by kernel_rfl)
theorem fix_l17_light (x0 : DV) : (run cfg).p F_l17_light [x0] = P_l17_light (run cfg) x0 :=
  (fix_pure (C := cfg) (f := F_l17_light) (fn := Try.f4) (c := code_l17_light) (by kernel_rfl) Try.func4 (by kernel_rfl)).trans (by kernel_rfl)
theorem call_l17_light (x0 : DV) {d : DV} (h : P_l17_light (run cfg) x0 = some d) : (run cfg).p F_l17_light [x0] = some d := (fix_l17_light x0).trans h

noncomputable def code_r03_Right : Code := Try.f5.body.getD .skip
noncomputable def P_r03_Right (R : Orc) (x0 : DV) : Option DV := evP cfg R fl_r03_Right (retP cfg.P Try.f5) [] code_r03_Right (initSt Try.f5 [(x0, .val)] [])
noncomputable def P_r03_Right_4h (R : Orc) (t3 : DV) (b1 : DV) : Option DV := headP cfg R fl_r03_Right (retP cfg.P Try.f5) [true, true, false, true, false] code_r03_Right ⟨spread .undef 45 0 [(3, t3)], spread .val 45 0 [(1, (.loc 1 0))], spread none 45 0 [(1, some [((proj 0 b1), .val), ((proj 1 b1), .val), ((proj 2 b1), .val)])], []⟩
set_option maxRecDepth 100000 in
theorem eq_r03_Right (R : Orc) (x0 : DV) : P_r03_Right R x0 =
  (og (isAggN 3 x0) <|
  ob (R.p F_r03_Kids [(proj 0 x0)]) fun d1 =>
  ob (dLen (proj 2 x0)) fun d2 =>
  ob (dBin .neq d1 d2) fun d3 =>
  ogd d3
   (some (.bool false))
   (ob (dBin .lss (proj 1 x0) (.int .i64 0)) fun d4 =>
   ogd d4
    (some (.bool false))
    (ob (dBin .gtr (proj 1 x0) (.int .i64 1048576)) fun d5 =>
    ogd d5
     (some (.bool false))
     (ob (dBin .neq (proj 0 x0) (.int .i64 6)) fun d6 =>
     ogd d6
      (ob (dBin .neq (proj 1 x0) (.int .i64 0)) fun d7 =>
      oif d7
       (some (.bool false))
       (P_r03_Right_4h R (.int .i64 0) x0))
      (P_r03_Right_4h R (.int .i64 0) x0)
      none)
     none)
    none)
   none) := evP_of [] (by kernel_rfl)
theorem eq_r03_Right_4h (R : Orc) (t3 : DV) (b1 : DV) : P_r03_Right_4h R t3 b1 =
  (ob (dLen (proj 2 b1)) fun d1 =>
  ob (dBin .lss t3 d1) fun d2 =>
  oif d2
   (ob (dIdx 3 (proj 2 b1) t3) fun d3 =>
   ob (R.p F_r03_Right [(.agg [(proj 0 d3), (proj 1 d3), (proj 2 d3)])]) fun d4 =>
   ob (dUn .not d4) fun d5 =>
   oif d5
    (some (.bool false))
    (ob (dBin .add t3 (.int .i64 1)) fun d6 =>
    P_r03_Right_4h R d6 b1))
   (some (.bool true))) := headP_of [] (by kernel_rfl)
theorem fix_r03_Right (x0 : DV) : (run cfg).p F_r03_Right [x0] = P_r03_Right (run cfg) x0 :=
  (fix_pure (C := cfg) (f := F_r03_Right) (fn := Try.f5) (c := code_r03_Right) (by kernel_rfl) Try.func5 (by kernel_rfl)).trans (by kernel_rfl)
theorem call_r03_Right (x0 : DV) {d : DV} (h : P_r03_Right (run cfg) x0 = some d) : (run cfg).p F_r03_Right [x0] = some d := (fix_r03_Right x0).trans h

noncomputable def code_keep_Int : Code := Try.f6.body.getD .skip
noncomputable def P_keep_Int (R : Orc) (x0 : DV) (x1 : DV) : Option DV := evP cfg R fl_keep_Int (retP cfg.P Try.f6) [] code_keep_Int (initSt Try.f6 [(x0, .val), (x1, .val)] [])
theorem eq_keep_Int (R : Orc) (x0 : DV) (x1 : DV) : P_keep_Int R x0 x1 =
  (ob (dBin .lss x1 (.int .i64 1)) fun d1 =>
  oif d1
   (some (.int .i64 0))
   (ob (dConv .u64 x0) fun d2 =>
   ob (dConv .u64 x1) fun d3 =>
   ob (dBin .rem d2 d3) fun d4 =>
   ob (dConv .i64 d4) fun d5 =>
   some d5)) := evP_of [] (by kernel_rfl)
theorem fix_keep_Int (x0 : DV) (x1 : DV) : (run cfg).p F_keep_Int [x0, x1] = P_keep_Int (run cfg) x0 x1 :=
  (fix_pure (C := cfg) (f := F_keep_Int) (fn := Try.f6) (c := code_keep_Int) (by kernel_rfl) Try.func6 (by kernel_rfl)).trans (by kernel_rfl)
theorem call_keep_Int (x0 : DV) (x1 : DV) {d : DV} (h : P_keep_Int (run cfg) x0 x1 = some d) : (run cfg).p F_keep_Int [x0, x1] = some d := (fix_keep_Int x0 x1).trans h

noncomputable def code_l17_name : Code := Try.f7.body.getD .skip
noncomputable def P_l17_name (R : Orc) (x0 : DV) (x1 : DV) : Option DV := evP cfg R fl_l17_name (retP cfg.P Try.f7) [] code_l17_name (initSt Try.f7 [(x0, .val), (x1, .val)] [])
theorem eq_l17_name (R : Orc) (x0 : DV) (x1 : DV) : P_l17_name R x0 x1 =
  (og (isCell x0) <|
  og (isCell x1) <|
  some (.agg [(.int .i64 1), (.int .i64 0), (.int .i64 0), x0, (.str ⟨#[]⟩), (.int .i64 0), (.str ⟨#[]⟩), (.int .i64 0), (.int .i64 0), (.bool false), (.list 1 []), (.int .i64 0), (.int .i64 0), (.list 3 []), (.int .i64 0), (.int .i64 0), (.list 3 []), x1, (.list 7 []), (.list 20 [])])) := evP_of [] (by kernel_rfl)
theorem fix_l17_name (x0 : DV) (x1 : DV) : (run cfg).p F_l17_name [x0, x1] = P_l17_name (run cfg) x0 x1 :=
  (fix_pure (C := cfg) (f := F_l17_name) (fn := Try.f7) (c := code_l17_name) (by kernel_rfl) Try.func7 (by kernel_rfl)).trans (by kernel_rfl)
theorem call_l17_name (x0 : DV) (x1 : DV) {d : DV} (h : P_l17_name (run cfg) x0 x1 = some d) : (run cfg).p F_l17_name [x0, x1] = some d := (fix_l17_name x0 x1).trans h

noncomputable def code_term_Put : Code := Try.f8.body.getD .skip
noncomputable def P_term_Put (R : Orc) (x0 : DV) (x1 : DV) (x2 : DV) (x3 : DV) : Option DV := evP cfg R fl_term_Put (retP cfg.P Try.f8) [] code_term_Put (initSt Try.f8 [(x0, .val), (x1, .val), (x2, .val), (x3, .val)] [])
noncomputable def P_term_Put_4h (R : Orc) (t1 : DV) (t2 : DV) (t32 : DV) (t33 : DV) (t34 : DV) (b4 : DV) (b7 : DV) (b8_0 : DV) (b8_1 : DV) (b8_2 : DV) (b8_3 : DV) (b8_4 : DV) (b8_5 : DV) (b8_6 : DV) (b8_7 : DV) (b8_8 : DV) (b8_9 : DV) (b8_10 : DV) (b8_11 : DV) (b8_12 : DV) (b8_13 : DV) (b8_14 : DV) (b8_15 : DV) (b8_16 : DV) (b8_17 : DV) (b8_18 : DV) (b8_19 : DV) : Option DV := headP cfg R fl_term_Put (retP cfg.P Try.f8) [true, true, false, true, false] code_term_Put ⟨spread .undef 53 0 [(1, t1), (2, t2), (32, t32), (33, t33), (34, t34)], spread .val 53 0 [(4, (.loc 4 0)), (7, (.loc 7 0)), (8, (.loc 8 0))], spread none 53 0 [(4, some [((proj 0 b4), .val), ((proj 1 b4), .val), ((proj 2 b4), .val), ((proj 3 b4), .val), ((proj 4 b4), .val), ((proj 5 b4), .val), ((proj 6 b4), .val), ((proj 7 b4), .val), ((proj 8 b4), .val), ((proj 9 b4), .val), ((proj 10 b4), .val), ((proj 11 b4), .val), ((proj 12 b4), .val), ((proj 13 b4), .val), ((proj 14 b4), .val), ((proj 15 b4), .val), ((proj 16 b4), .val), ((proj 17 b4), .val), ((proj 18 b4), .val), ((proj 19 b4), .val)]), (7, some [((proj 0 b7), .val), ((proj 1 b7), .val), ((proj 2 b7), .val), ((proj 3 b7), .val), ((proj 4 b7), .val), ((proj 5 b7), .val), ((proj 6 b7), .val), ((proj 7 b7), .val), ((proj 8 b7), .val), ((proj 9 b7), .val), ((proj 10 b7), .val), ((proj 11 b7), .val), ((proj 12 b7), .val), ((proj 13 b7), .val), ((proj 14 b7), .val), ((proj 15 b7), .val), ((proj 16 b7), .val), ((proj 17 b7), .val), ((proj 18 b7), .val), ((proj 19 b7), .val)]), (8, some [(b8_0, .val), (b8_1, .val), (b8_2, .val), (b8_3, .val), (b8_4, .val), (b8_5, .val), (b8_6, .val), (b8_7, .val), (b8_8, .val), (b8_9, .val), (b8_10, .val), (b8_11, .val), (b8_12, .val), (b8_13, .val), (b8_14, .val), (b8_15, .val), (b8_16, .val), (b8_17, .val), (b8_18, .val), (b8_19, .val)])], []⟩
set_option maxRecDepth 100000 in
theorem eq_term_Put (R : Orc) (x0 : DV) (x1 : DV) (x2 : DV) (x3 : DV) : P_term_Put R x0 x1 x2 x3 =
  (og (isAggN 20 x0) <|
  og (isAggN 20 x3) <|
  ob (R.p F_term_right [(.agg [(proj 0 x0), (proj 1 x0), (proj 2 x0), (proj 3 x0), (proj 4 x0), (proj 5 x0), (proj 6 x0), (proj 7 x0), (proj 8 x0), (proj 9 x0), (proj 10 x0), (proj 11 x0), (proj 12 x0), (proj 13 x0), (proj 14 x0), (proj 15 x0), (proj 16 x0), (proj 17 x0), (proj 18 x0), (proj 19 x0)])]) fun d1 =>
  ob (dUn .not d1) fun d2 =>
  ogd d2
   (some (.tup [(.agg [(.int .i64 0), (.int .i64 0), (.int .i64 0), (.str ⟨#[]⟩), (.str ⟨#[]⟩), (.int .i64 0), (.str ⟨#[]⟩), (.int .i64 0), (.int .i64 0), (.bool false), (.list 1 []), (.int .i64 0), (.int .i64 0), (.list 3 []), (.int .i64 0), (.int .i64 0), (.list 3 []), (.list 3 []), (.list 7 []), (.list 20 [])]), (.int .i64 1)]))
   (ob (R.p F_term_right [(.agg [(proj 0 x3), (proj 1 x3), (proj 2 x3), (proj 3 x3), (proj 4 x3), (proj 5 x3), (proj 6 x3), (proj 7 x3), (proj 8 x3), (proj 9 x3), (proj 10 x3), (proj 11 x3), (proj 12 x3), (proj 13 x3), (proj 14 x3), (proj 15 x3), (proj 16 x3), (proj 17 x3), (proj 18 x3), (proj 19 x3)])]) fun d3 =>
   ob (dUn .not d3) fun d4 =>
   ogd d4
    (some (.tup [(.agg [(.int .i64 0), (.int .i64 0), (.int .i64 0), (.str ⟨#[]⟩), (.str ⟨#[]⟩), (.int .i64 0), (.str ⟨#[]⟩), (.int .i64 0), (.int .i64 0), (.bool false), (.list 1 []), (.int .i64 0), (.int .i64 0), (.list 3 []), (.int .i64 0), (.int .i64 0), (.list 3 []), (.list 3 []), (.list 7 []), (.list 20 [])]), (.int .i64 1)]))
    (ob (R.p F_word_Name [x1]) fun d5 =>
    ob (dUn .not d5) fun d6 =>
    ogd d6
     (some (.tup [(.agg [(.int .i64 0), (.int .i64 0), (.int .i64 0), (.str ⟨#[]⟩), (.str ⟨#[]⟩), (.int .i64 0), (.str ⟨#[]⟩), (.int .i64 0), (.int .i64 0), (.bool false), (.list 1 []), (.int .i64 0), (.int .i64 0), (.list 3 []), (.int .i64 0), (.int .i64 0), (.list 3 []), (.list 3 []), (.list 7 []), (.list 20 [])]), (.int .i64 1)]))
     (ob (R.p F_term_Free [(.agg [(proj 0 x3), (proj 1 x3), (proj 2 x3), (proj 3 x3), (proj 4 x3), (proj 5 x3), (proj 6 x3), (proj 7 x3), (proj 8 x3), (proj 9 x3), (proj 10 x3), (proj 11 x3), (proj 12 x3), (proj 13 x3), (proj 14 x3), (proj 15 x3), (proj 16 x3), (proj 17 x3), (proj 18 x3), (proj 19 x3)])]) fun d7 =>
     ob (dLen d7) fun d8 =>
     ob (dBin .gtr d8 (.int .i64 0)) fun d9 =>
     oif d9
      (some (.tup [(.agg [(.int .i64 0), (.int .i64 0), (.int .i64 0), (.str ⟨#[]⟩), (.str ⟨#[]⟩), (.int .i64 0), (.str ⟨#[]⟩), (.int .i64 0), (.int .i64 0), (.bool false), (.list 1 []), (.int .i64 0), (.int .i64 0), (.list 3 []), (.int .i64 0), (.int .i64 0), (.list 3 []), (.list 3 []), (.list 7 []), (.list 20 [])]), (.int .i64 1)]))
      (ob (dLen x2) fun d10 =>
      P_term_Put_4h R x1 x2 x2 d10 (.int .i64 0) x0 x3 (.int .i64 0) (.int .i64 0) (.int .i64 0) (.str ⟨#[]⟩) (.str ⟨#[]⟩) (.int .i64 0) (.str ⟨#[]⟩) (.int .i64 0) (.int .i64 0) (.bool false) (.list 1 []) (.int .i64 0) (.int .i64 0) (.list 3 []) (.int .i64 0) (.int .i64 0) (.list 3 []) (.list 3 []) (.list 7 []) (.list 20 [])))
     none)
    none)
   none) := evP_of [] (by kernel_rfl)
theorem eq_term_Put_4h (R : Orc) (t1 : DV) (t2 : DV) (t32 : DV) (t33 : DV) (t34 : DV) (b4 : DV) (b7 : DV) (b8_0 : DV) (b8_1 : DV) (b8_2 : DV) (b8_3 : DV) (b8_4 : DV) (b8_5 : DV) (b8_6 : DV) (b8_7 : DV) (b8_8 : DV) (b8_9 : DV) (b8_10 : DV) (b8_11 : DV) (b8_12 : DV) (b8_13 : DV) (b8_14 : DV) (b8_15 : DV) (b8_16 : DV) (b8_17 : DV) (b8_18 : DV) (b8_19 : DV) : P_term_Put_4h R t1 t2 t32 t33 t34 b4 b7 b8_0 b8_1 b8_2 b8_3 b8_4 b8_5 b8_6 b8_7 b8_8 b8_9 b8_10 b8_11 b8_12 b8_13 b8_14 b8_15 b8_16 b8_17 b8_18 b8_19 =
  (ob (dBin .lss t34 t33) fun d1 =>
  oif d1
   (ob (dIdx 1 t32 t34) fun d2 =>
   og (isLeaf d2) <|
   ob (dBin .lss d2 (.int .i64 0)) fun d3 =>
   ogd d3
    (some (.tup [(.agg [(.int .i64 0), (.int .i64 0), (.int .i64 0), (.str ⟨#[]⟩), (.str ⟨#[]⟩), (.int .i64 0), (.str ⟨#[]⟩), (.int .i64 0), (.int .i64 0), (.bool false), (.list 1 []), (.int .i64 0), (.int .i64 0), (.list 3 []), (.int .i64 0), (.int .i64 0), (.list 3 []), (.list 3 []), (.list 7 []), (.list 20 [])]), (.int .i64 1)]))
    (ob (dBin .gtr d2 (.int .i64 1048576)) fun d4 =>
    oif d4
     (some (.tup [(.agg [(.int .i64 0), (.int .i64 0), (.int .i64 0), (.str ⟨#[]⟩), (.str ⟨#[]⟩), (.int .i64 0), (.str ⟨#[]⟩), (.int .i64 0), (.int .i64 0), (.bool false), (.list 1 []), (.int .i64 0), (.int .i64 0), (.list 3 []), (.int .i64 0), (.int .i64 0), (.list 3 []), (.list 3 []), (.list 7 []), (.list 20 [])]), (.int .i64 1)]))
     (ob (dBin .add t34 (.int .i64 1)) fun d5 =>
     P_term_Put_4h R t1 t2 t32 t33 d5 b4 b7 b8_0 b8_1 b8_2 b8_3 b8_4 b8_5 b8_6 b8_7 b8_8 b8_9 b8_10 b8_11 b8_12 b8_13 b8_14 b8_15 b8_16 b8_17 b8_18 b8_19))
    none)
   (ob (R.p F_term_For [(.agg [(proj 0 b4), (proj 1 b4), (proj 2 b4), (proj 3 b4), (proj 4 b4), (proj 5 b4), (proj 6 b4), (proj 7 b4), (proj 8 b4), (proj 9 b4), (proj 10 b4), (proj 11 b4), (proj 12 b4), (proj 13 b4), (proj 14 b4), (proj 15 b4), (proj 16 b4), (proj 17 b4), (proj 18 b4), (proj 19 b4)]), t1, t2, (.agg [(proj 0 b7), (proj 1 b7), (proj 2 b7), (proj 3 b7), (proj 4 b7), (proj 5 b7), (proj 6 b7), (proj 7 b7), (proj 8 b7), (proj 9 b7), (proj 10 b7), (proj 11 b7), (proj 12 b7), (proj 13 b7), (proj 14 b7), (proj 15 b7), (proj 16 b7), (proj 17 b7), (proj 18 b7), (proj 19 b7)])]) fun d6 =>
   ob (dExt 0 d6) fun d7 =>
   ob (dExt 1 d6) fun d8 =>
   og (isAggN 20 d7) <|
   some (.tup [(.agg [(proj 0 d7), (proj 1 d7), (proj 2 d7), (proj 3 d7), (proj 4 d7), (proj 5 d7), (proj 6 d7), (proj 7 d7), (proj 8 d7), (proj 9 d7), (proj 10 d7), (proj 11 d7), (proj 12 d7), (proj 13 d7), (proj 14 d7), (proj 15 d7), (proj 16 d7), (proj 17 d7), (proj 18 d7), (proj 19 d7)]), d8]))) := headP_of [] (by kernel_rfl)
theorem fix_term_Put (x0 : DV) (x1 : DV) (x2 : DV) (x3 : DV) : (run cfg).p F_term_Put [x0, x1, x2, x3] = P_term_Put (run cfg) x0 x1 x2 x3 :=
  (fix_pure (C := cfg) (f := F_term_Put) (fn := Try.f8) (c := code_term_Put) (by kernel_rfl) Try.func8 (by kernel_rfl)).trans (by kernel_rfl)
theorem call_term_Put (x0 : DV) (x1 : DV) (x2 : DV) (x3 : DV) {d : DV} (h : P_term_Put (run cfg) x0 x1 x2 x3 = some d) : (run cfg).p F_term_Put [x0, x1, x2, x3] = some d := (fix_term_Put x0 x1 x2 x3).trans h

noncomputable def code_keep_Same : Code := Try.f9.body.getD .skip
noncomputable def P_keep_Same (R : Orc) (x0 : DV) (x1 : DV) : Option DV := evP cfg R fl_keep_Same (retP cfg.P Try.f9) [] code_keep_Same (initSt Try.f9 [(x0, .val), (x1, .val)] [])
noncomputable def P_keep_Same_4h (R : Orc) (t5 : DV) (b2 : DV) (b3 : DV) : Option DV := headP cfg R fl_keep_Same (retP cfg.P Try.f9) [true, true, false, true, false] code_keep_Same ⟨spread .undef 46 0 [(5, t5)], spread .val 46 0 [(2, (.loc 2 0)), (3, (.loc 3 0))], spread none 46 0 [(2, some [((proj 0 b2), .val), ((proj 1 b2), .val), ((proj 2 b2), .val)]), (3, some [((proj 0 b3), .val), ((proj 1 b3), .val), ((proj 2 b3), .val)])], []⟩
set_option maxRecDepth 100000 in
theorem eq_keep_Same (R : Orc) (x0 : DV) (x1 : DV) : P_keep_Same R x0 x1 =
  (og (isAggN 3 x0) <|
  og (isAggN 3 x1) <|
  ob (dBin .neq (proj 0 x0) (proj 0 x1)) fun d1 =>
  ogd d1
   (some (.bool false))
   (ob (dBin .neq (proj 1 x0) (proj 1 x1)) fun d2 =>
   ogd d2
    (some (.bool false))
    (ob (dLen (proj 2 x0)) fun d3 =>
    ob (dLen (proj 2 x1)) fun d4 =>
    ob (dBin .neq d3 d4) fun d5 =>
    oif d5
     (some (.bool false))
     (P_keep_Same_4h R (.int .i64 0) x0 x1))
    none)
   none) := evP_of [] (by kernel_rfl)
theorem eq_keep_Same_4h (R : Orc) (t5 : DV) (b2 : DV) (b3 : DV) : P_keep_Same_4h R t5 b2 b3 =
  (ob (dLen (proj 2 b2)) fun d1 =>
  ob (dBin .lss t5 d1) fun d2 =>
  oif d2
   (ob (dIdx 3 (proj 2 b2) t5) fun d3 =>
   ob (dIdx 3 (proj 2 b3) t5) fun d4 =>
   ob (R.p F_keep_Same [(.agg [(proj 0 d3), (proj 1 d3), (proj 2 d3)]), (.agg [(proj 0 d4), (proj 1 d4), (proj 2 d4)])]) fun d5 =>
   ob (dUn .not d5) fun d6 =>
   oif d6
    (some (.bool false))
    (ob (dBin .add t5 (.int .i64 1)) fun d7 =>
    P_keep_Same_4h R d7 b2 b3))
   (some (.bool true))) := headP_of [] (by kernel_rfl)
theorem fix_keep_Same (x0 : DV) (x1 : DV) : (run cfg).p F_keep_Same [x0, x1] = P_keep_Same (run cfg) x0 x1 :=
  (fix_pure (C := cfg) (f := F_keep_Same) (fn := Try.f9) (c := code_keep_Same) (by kernel_rfl) Try.func9 (by kernel_rfl)).trans (by kernel_rfl)
theorem call_keep_Same (x0 : DV) (x1 : DV) {d : DV} (h : P_keep_Same (run cfg) x0 x1 = some d) : (run cfg).p F_keep_Same [x0, x1] = some d := (fix_keep_Same x0 x1).trans h

noncomputable def code_r05_Has : Code := Try.f10.body.getD .skip
noncomputable def P_r05_Has (R : Orc) (x0 : DV) (x1 : DV) : Option DV := evP cfg R fl_r05_Has (retP cfg.P Try.f10) [] code_r05_Has (initSt Try.f10 [(x0, .val), (x1, .val)] [])
noncomputable def P_r05_Has_2h (R : Orc) (t0 : DV) (t1 : DV) (t5 : DV) : Option DV := headP cfg R fl_r05_Has (retP cfg.P Try.f10) [true, false, true, false] code_r05_Has ⟨spread .undef 18 0 [(0, t0), (1, t1), (5, t5)], spread .val 18 0 [], spread none 18 0 [], []⟩
theorem eq_r05_Has (R : Orc) (x0 : DV) (x1 : DV) : P_r05_Has R x0 x1 =
  (P_r05_Has_2h R x0 x1 (.int .i64 0)) := evP_of [] (by kernel_rfl)
theorem eq_r05_Has_2h (R : Orc) (t0 : DV) (t1 : DV) (t5 : DV) : P_r05_Has_2h R t0 t1 t5 =
  (ob (dLen t0) fun d1 =>
  ob (dBin .lss t5 d1) fun d2 =>
  oif d2
   (ob (dIdx 1 t0 t5) fun d3 =>
   og (isLeaf d3) <|
   ob (dBin .eql d3 t1) fun d4 =>
   oif d4
    (some (.bool true))
    (ob (dBin .add t5 (.int .i64 1)) fun d5 =>
    P_r05_Has_2h R t0 t1 d5))
   (some (.bool false))) := headP_of [] (by kernel_rfl)
theorem fix_r05_Has (x0 : DV) (x1 : DV) : (run cfg).p F_r05_Has [x0, x1] = P_r05_Has (run cfg) x0 x1 :=
  (fix_pure (C := cfg) (f := F_r05_Has) (fn := Try.f10) (c := code_r05_Has) (by kernel_rfl) Try.func10 (by kernel_rfl)).trans (by kernel_rfl)
theorem call_r05_Has (x0 : DV) (x1 : DV) {d : DV} (h : P_r05_Has (run cfg) x0 x1 = some d) : (run cfg).p F_r05_Has [x0, x1] = some d := (fix_r05_Has x0 x1).trans h

noncomputable def P_term_Free (R : Orc) (x0 : DV) : Option DV := evP cfg R fl_term_Free (keyK cfg R fl_term_Free kp_term_Free cut_term_Free.post (retP cfg.P Try.f11)) [] (seqs cut_term_Free.pre .skip) (initSt Try.f11 [(x0, .val)] [])
theorem eq_term_Free (R : Orc) (x0 : DV) : P_term_Free R x0 =
  (og (isAggN 20 x0) <|
  ob (R.p F_term_right [(.agg [(proj 0 x0), (proj 1 x0), (proj 2 x0), (proj 3 x0), (proj 4 x0), (proj 5 x0), (proj 6 x0), (proj 7 x0), (proj 8 x0), (proj 9 x0), (proj 10 x0), (proj 11 x0), (proj 12 x0), (proj 13 x0), (proj 14 x0), (proj 15 x0), (proj 16 x0), (proj 17 x0), (proj 18 x0), (proj 19 x0)])]) fun d1 =>
  ob (dUn .not d1) fun d2 =>
  oif d2
   (some (.list 1 []))
   (ob (R.r F_term_free [((.agg [(proj 0 x0), (proj 1 x0), (proj 2 x0), (proj 3 x0), (proj 4 x0), (proj 5 x0), (proj 6 x0), (proj 7 x0), (proj 8 x0), (proj 9 x0), (proj 10 x0), (proj 11 x0), (proj 12 x0), (proj 13 x0), (proj 14 x0), (proj 15 x0), (proj 16 x0), (proj 17 x0), (proj 18 x0), (proj 19 x0)]), .val), (.undef, (.map 1)), (.undef, (.map 0))] [.map true [], .map true []]) fun q3 =>
   ob (sgMap q3.2 0) fun m4 =>
   og (m4.1 && true && true) <|
   if m4.2.length ≤ lim then
    (some (sortKeys m4.2))
   else none)) := evP_of [] (by kernel_rfl)
theorem fix_term_Free (x0 : DV) : (run cfg).p F_term_Free [x0] = P_term_Free (run cfg) x0 :=
  (fix_cut (C := cfg) (f := F_term_Free) (fn := Try.f11) (c := kc_term_Free) (p := cut_term_Free) rfl Try.func11 (by kernel_rfl)).trans ((congrArg (fun k => evP cfg (run cfg) fl_term_Free k [] (seqs cut_term_Free.pre .skip) (initSt Try.f11 ([x0].map fun d => (d, .val)) [])) (keyK_eq (q := kp_term_Free) (p := cut_term_Free) (by kernel_rfl))).trans (by kernel_rfl))
theorem call_term_Free (x0 : DV) {d : DV} (h : P_term_Free (run cfg) x0 = some d) : (run cfg).p F_term_Free [x0] = some d := (fix_term_Free x0).trans h

noncomputable def code_l17_wakes : Code := Try.f12.body.getD .skip
noncomputable def P_l17_wakes (R : Orc) : Option DV := evP cfg R fl_l17_wakes (retP cfg.P Try.f12) [] code_l17_wakes (initSt Try.f12 [] [])
noncomputable def P_l17_wakes_4 (R : Orc) (t3 : DV) (t5 : DV) (b1_0 : DV) (b1_1 : DV) (b1_2 : DV) (b1_3 : DV) (b1_4 : DV) (b1_5 : DV) (b1_6 : DV) (b1_7 : DV) (b1_8 : DV) (b1_9 : DV) (b1_10 : DV) (b1_11 : DV) (b1_12 : DV) (b1_13 : DV) (b1_14 : DV) (b1_15 : DV) (b1_16 : DV) (b1_17 : DV) (b1_18 : DV) (b1_19 : DV) (b2 : DV) (b4 : DV) : Option DV := evP cfg R fl_l17_wakes (retP cfg.P Try.f12) [true, true, true, true] code_l17_wakes ⟨spread .undef 75 0 [(3, t3), (5, t5)], spread .val 75 0 [(1, (.loc 1 0)), (2, (.loc 2 0)), (4, (.loc 4 0))], spread none 75 0 [(1, some [(b1_0, .val), (b1_1, .val), (b1_2, .val), (b1_3, .val), (b1_4, .val), (b1_5, .val), (b1_6, .val), (b1_7, .val), (b1_8, .val), (b1_9, .val), (b1_10, .val), (b1_11, .val), (b1_12, .val), (b1_13, .val), (b1_14, .val), (b1_15, .val), (b1_16, .val), (b1_17, .val), (b1_18, .val), (b1_19, .val)]), (2, some [((proj 0 b2), .val), ((proj 1 b2), .val), ((proj 2 b2), .val), ((proj 3 b2), .val), ((proj 4 b2), .val), ((proj 5 b2), .val), ((proj 6 b2), .val), ((proj 7 b2), .val), ((proj 8 b2), .val), ((proj 9 b2), .val), ((proj 10 b2), .val), ((proj 11 b2), .val), ((proj 12 b2), .val), ((proj 13 b2), .val), ((proj 14 b2), .val), ((proj 15 b2), .val), ((proj 16 b2), .val), ((proj 17 b2), .val), ((proj 18 b2), .val), ((proj 19 b2), .val)]), (4, some [((proj 0 b4), .val), ((proj 1 b4), .val), ((proj 2 b4), .val), ((proj 3 b4), .val), ((proj 4 b4), .val), ((proj 5 b4), .val), ((proj 6 b4), .val), ((proj 7 b4), .val), ((proj 8 b4), .val), ((proj 9 b4), .val), ((proj 10 b4), .val), ((proj 11 b4), .val), ((proj 12 b4), .val), ((proj 13 b4), .val), ((proj 14 b4), .val), ((proj 15 b4), .val), ((proj 16 b4), .val), ((proj 17 b4), .val), ((proj 18 b4), .val), ((proj 19 b4), .val)])], []⟩
theorem eq_l17_wakes (R : Orc) : P_l17_wakes R =
  (ob (R.p F_r03_Leaf [(.int .i64 1)]) fun d1 =>
  ob (R.p F_l17_name [(.str ⟨#[120]⟩), (.list 3 [])]) fun d2 =>
  ob (R.p F_l17_name [(.str ⟨#[121]⟩), (.list 3 [])]) fun d3 =>
  og (isAggN 20 d2) <|
  og (isAggN 20 d3) <|
  og (isAggN 3 d1) <|
  ob (R.p F_term_Put [(.agg [(.int .i64 9), (.int .i64 0), (.int .i64 0), (.str ⟨#[120]⟩), (.str ⟨#[]⟩), (.int .i64 0), (.str ⟨#[]⟩), (.int .i64 0), (.int .i64 0), (.bool false), (.list 1 []), (proj 0 d1), (proj 1 d1), (proj 2 d1), (.int .i64 0), (.int .i64 0), (.list 3 []), (.list 3 []), (.list 7 []), (.list 20 [(.agg [(.int .i64 6), (.int .i64 0), (.int .i64 0), (.str ⟨#[]⟩), (.str ⟨#[]⟩), (.int .i64 0), (.str ⟨#[]⟩), (.int .i64 0), (.int .i64 0), (.bool false), (.list 1 []), (.int .i64 0), (.int .i64 0), (.list 3 []), (.int .i64 0), (.int .i64 0), (.list 3 []), (.list 3 []), (.list 7 []), (.list 20 [d2, d3])])])]), (.str ⟨#[121]⟩), (.list 1 []), (.agg [(.int .i64 5), (.int .i64 0), (.int .i64 0), (.str ⟨#[]⟩), (.str ⟨#[]⟩), (.int .i64 0), (.str ⟨#[]⟩), (.int .i64 0), (.int .i64 0), (.bool false), (.list 1 []), (.int .i64 0), (.int .i64 0), (.list 3 []), (.int .i64 0), (.int .i64 0), (.list 3 []), (.list 3 []), (.list 7 []), (.list 20 [])])]) fun d4 =>
  ob (dExt 0 d4) fun d5 =>
  ob (dExt 1 d4) fun d6 =>
  og (isAggN 20 d5) <|
  ob (R.p F_term_Put [(.agg [(.int .i64 9), (.int .i64 0), (.int .i64 0), (.str ⟨#[120]⟩), (.str ⟨#[]⟩), (.int .i64 0), (.str ⟨#[]⟩), (.int .i64 0), (.int .i64 0), (.bool false), (.list 1 []), (proj 0 d1), (proj 1 d1), (proj 2 d1), (.int .i64 0), (.int .i64 0), (.list 3 []), (.list 3 []), (.list 7 []), (.list 20 [(.agg [(.int .i64 6), (.int .i64 0), (.int .i64 0), (.str ⟨#[]⟩), (.str ⟨#[]⟩), (.int .i64 0), (.str ⟨#[]⟩), (.int .i64 0), (.int .i64 0), (.bool false), (.list 1 []), (.int .i64 0), (.int .i64 0), (.list 3 []), (.int .i64 0), (.int .i64 0), (.list 3 []), (.list 3 []), (.list 7 []), (.list 20 [d2, d3])])])]), (.str ⟨#[120]⟩), (.list 1 []), (.agg [(.int .i64 5), (.int .i64 0), (.int .i64 0), (.str ⟨#[]⟩), (.str ⟨#[]⟩), (.int .i64 0), (.str ⟨#[]⟩), (.int .i64 0), (.int .i64 0), (.bool false), (.list 1 []), (.int .i64 0), (.int .i64 0), (.list 3 []), (.int .i64 0), (.int .i64 0), (.list 3 []), (.list 3 []), (.list 7 []), (.list 20 [])])]) fun d7 =>
  ob (dExt 0 d7) fun d8 =>
  ob (dExt 1 d7) fun d9 =>
  og (isAggN 20 d8) <|
  P_l17_wakes_4 R d6 d9 (.int .i64 9) (.int .i64 0) (.int .i64 0) (.str ⟨#[120]⟩) (.str ⟨#[]⟩) (.int .i64 0) (.str ⟨#[]⟩) (.int .i64 0) (.int .i64 0) (.bool false) (.list 1 []) (proj 0 d1) (proj 1 d1) (proj 2 d1) (.int .i64 0) (.int .i64 0) (.list 3 []) (.list 3 []) (.list 7 []) (.list 20 [(.agg [(.int .i64 6), (.int .i64 0), (.int .i64 0), (.str ⟨#[]⟩), (.str ⟨#[]⟩), (.int .i64 0), (.str ⟨#[]⟩), (.int .i64 0), (.int .i64 0), (.bool false), (.list 1 []), (.int .i64 0), (.int .i64 0), (.list 3 []), (.int .i64 0), (.int .i64 0), (.list 3 []), (.list 3 []), (.list 7 []), (.list 20 [d2, d3])])]) d5 d8) := evP_of [4] (by kernel_rfl)
set_option maxRecDepth 100000 in
theorem eq_l17_wakes_4 (R : Orc) (t3 : DV) (t5 : DV) (b1_0 : DV) (b1_1 : DV) (b1_2 : DV) (b1_3 : DV) (b1_4 : DV) (b1_5 : DV) (b1_6 : DV) (b1_7 : DV) (b1_8 : DV) (b1_9 : DV) (b1_10 : DV) (b1_11 : DV) (b1_12 : DV) (b1_13 : DV) (b1_14 : DV) (b1_15 : DV) (b1_16 : DV) (b1_17 : DV) (b1_18 : DV) (b1_19 : DV) (b2 : DV) (b4 : DV) : P_l17_wakes_4 R t3 t5 b1_0 b1_1 b1_2 b1_3 b1_4 b1_5 b1_6 b1_7 b1_8 b1_9 b1_10 b1_11 b1_12 b1_13 b1_14 b1_15 b1_16 b1_17 b1_18 b1_19 b2 b4 =
  (ob (R.p F_term_Check [(.agg [b1_0, b1_1, b1_2, b1_3, b1_4, b1_5, b1_6, b1_7, b1_8, b1_9, b1_10, b1_11, b1_12, b1_13, b1_14, b1_15, b1_16, b1_17, b1_18, b1_19])]) fun d1 =>
  ob (dBin .eql d1 (.int .i64 0)) fun d2 =>
  ogd d2
   (ob (R.p F_term_Check [(.agg [(.int .i64 0), (.int .i64 0), (.int .i64 0), (.str ⟨#[]⟩), (.str ⟨#[]⟩), (.int .i64 0), (.str ⟨#[]⟩), (.int .i64 0), (.int .i64 0), (.bool false), (.list 1 []), (.int .i64 0), (.int .i64 0), (.list 3 []), (.int .i64 0), (.int .i64 0), (.list 3 []), (.list 3 []), (.list 7 []), (.list 20 [])])]) fun d3 =>
   ob (dBin .eql d3 (.int .i64 1)) fun d4 =>
   ogd d4
    (ob (R.p F_term_Size [(.agg [b1_0, b1_1, b1_2, b1_3, b1_4, b1_5, b1_6, b1_7, b1_8, b1_9, b1_10, b1_11, b1_12, b1_13, b1_14, b1_15, b1_16, b1_17, b1_18, b1_19])]) fun d5 =>
    ob (dBin .eql d5 (.int .i64 4)) fun d6 =>
    ogd d6
     (ob (R.p F_term_Free [(.agg [b1_0, b1_1, b1_2, b1_3, b1_4, b1_5, b1_6, b1_7, b1_8, b1_9, b1_10, b1_11, b1_12, b1_13, b1_14, b1_15, b1_16, b1_17, b1_18, b1_19])]) fun d7 =>
     ob (R.p F_keep_Texts [d7, (.list 1 [(.str ⟨#[121]⟩)])]) fun d8 =>
     ogd d8
      (ob (dBin .eql t3 (.int .i64 0)) fun d9 =>
      ogd d9
       (ob (R.p F_term_Free [(.agg [(proj 0 b2), (proj 1 b2), (proj 2 b2), (proj 3 b2), (proj 4 b2), (proj 5 b2), (proj 6 b2), (proj 7 b2), (proj 8 b2), (proj 9 b2), (proj 10 b2), (proj 11 b2), (proj 12 b2), (proj 13 b2), (proj 14 b2), (proj 15 b2), (proj 16 b2), (proj 17 b2), (proj 18 b2), (proj 19 b2)])]) fun d10 =>
       ob (dLen d10) fun d11 =>
       ob (dBin .eql d11 (.int .i64 0)) fun d12 =>
       ogd d12
        (ob (dLen (proj 19 b2)) fun d13 =>
        ob (dBin .eql d13 (.int .i64 1)) fun d14 =>
        ogd d14
         (ob (dBin .eql t5 (.int .i64 0)) fun d15 =>
         ogd d15
          (ob (R.p F_term_Same [(.agg [(proj 0 b4), (proj 1 b4), (proj 2 b4), (proj 3 b4), (proj 4 b4), (proj 5 b4), (proj 6 b4), (proj 7 b4), (proj 8 b4), (proj 9 b4), (proj 10 b4), (proj 11 b4), (proj 12 b4), (proj 13 b4), (proj 14 b4), (proj 15 b4), (proj 16 b4), (proj 17 b4), (proj 18 b4), (proj 19 b4)]), (.agg [b1_0, b1_1, b1_2, b1_3, b1_4, b1_5, b1_6, b1_7, b1_8, b1_9, b1_10, b1_11, b1_12, b1_13, b1_14, b1_15, b1_16, b1_17, b1_18, b1_19])]) fun d16 =>
          ogd d16
           (ob (R.p F_term_Same [(.agg [(proj 0 b2), (proj 1 b2), (proj 2 b2), (proj 3 b2), (proj 4 b2), (proj 5 b2), (proj 6 b2), (proj 7 b2), (proj 8 b2), (proj 9 b2), (proj 10 b2), (proj 11 b2), (proj 12 b2), (proj 13 b2), (proj 14 b2), (proj 15 b2), (proj 16 b2), (proj 17 b2), (proj 18 b2), (proj 19 b2)]), (.agg [b1_0, b1_1, b1_2, b1_3, b1_4, b1_5, b1_6, b1_7, b1_8, b1_9, b1_10, b1_11, b1_12, b1_13, b1_14, b1_15, b1_16, b1_17, b1_18, b1_19])]) fun d17 =>
           ob (dUn .not d17) fun d18 =>
           some d18)
           (some (.bool false))
           none)
          (some (.bool false))
          none)
         (some (.bool false))
         none)
        (some (.bool false))
        none)
       (some (.bool false))
       none)
      (some (.bool false))
      none)
     (some (.bool false))
     none)
    (some (.bool false))
    none)
   (some (.bool false))
   none) := evP_of [4] (by kernel_rfl)
theorem fix_l17_wakes : (run cfg).p F_l17_wakes [] = P_l17_wakes (run cfg) :=
  (fix_pure (C := cfg) (f := F_l17_wakes) (fn := Try.f12) (c := code_l17_wakes) (by kernel_rfl) Try.func12 (by kernel_rfl)).trans (by kernel_rfl)
theorem call_l17_wakes {d : DV} (h : P_l17_wakes (run cfg) = some d) : (run cfg).p F_l17_wakes [] = some d := (fix_l17_wakes).trans h

noncomputable def code_l11_Small : Code := Try.f13.body.getD .skip
noncomputable def P_l11_Small (R : Orc) (x0 : DV) : Option DV := evP cfg R fl_l11_Small (retP cfg.P Try.f13) [] code_l11_Small (initSt Try.f13 [(x0, .val)] [])
noncomputable def P_l11_Small_2h (R : Orc) (t0 : DV) (t3 : DV) : Option DV := headP cfg R fl_l11_Small (retP cfg.P Try.f13) [true, false, true, false] code_l11_Small ⟨spread .undef 32 0 [(0, t0), (3, t3)], spread .val 32 0 [], spread none 32 0 [], []⟩
theorem eq_l11_Small (R : Orc) (x0 : DV) : P_l11_Small R x0 =
  (P_l11_Small_2h R x0 (.int .i64 0)) := evP_of [] (by kernel_rfl)
set_option maxRecDepth 100000 in
theorem eq_l11_Small_2h (R : Orc) (t0 : DV) (t3 : DV) : P_l11_Small_2h R t0 t3 =
  (ob (dLen t0) fun d1 =>
  ob (dBin .lss t3 d1) fun d2 =>
  oif d2
   (ob (dIdx 3 t0 t3) fun d3 =>
   ob (R.p F_l03_Heavy [(.list 3 [(.agg [(proj 0 d3), (proj 1 d3), (proj 2 d3)])])]) fun d4 =>
   ogd d4
    (some (.bool false))
    (ob (dIdx 3 t0 t3) fun d5 =>
    ob (R.p F_r08_Deep [(.agg [(proj 0 d5), (proj 1 d5), (proj 2 d5)]), (.int .i64 60)]) fun d6 =>
    ogd d6
     (some (.bool false))
     (ob (dIdx 3 t0 t3) fun d7 =>
     ob (R.p F_r03_Vars [(.agg [(proj 0 d7), (proj 1 d7), (proj 2 d7)])]) fun d8 =>
     ob (dLen d8) fun d9 =>
     ob (dBin .gtr d9 (.int .i64 8)) fun d10 =>
     oif d10
      (some (.bool false))
      (ob (dBin .add t3 (.int .i64 1)) fun d11 =>
      P_l11_Small_2h R t0 d11))
     none)
    none)
   (some (.bool true))) := headP_of [] (by kernel_rfl)
theorem fix_l11_Small (x0 : DV) : (run cfg).p F_l11_Small [x0] = P_l11_Small (run cfg) x0 :=
  (fix_pure (C := cfg) (f := F_l11_Small) (fn := Try.f13) (c := code_l11_Small) (by kernel_rfl) Try.func13 (by kernel_rfl)).trans (by kernel_rfl)
theorem call_l11_Small (x0 : DV) {d : DV} (h : P_l11_Small (run cfg) x0 = some d) : (run cfg).p F_l11_Small [x0] = some d := (fix_l11_Small x0).trans h

noncomputable def code_r03_Size : Code := Try.f14.body.getD .skip
noncomputable def P_r03_Size (R : Orc) (x0 : DV) : Option DV := evP cfg R fl_r03_Size (retP cfg.P Try.f14) [] code_r03_Size (initSt Try.f14 [(x0, .val)] [])
noncomputable def P_r03_Size_3h (R : Orc) (t3 : DV) (t4 : DV) (b1 : DV) : Option DV := headP cfg R fl_r03_Size (retP cfg.P Try.f14) [true, true, false, true, false] code_r03_Size ⟨spread .undef 21 0 [(3, t3), (4, t4)], spread .val 21 0 [(1, (.loc 1 0))], spread none 21 0 [(1, some [((proj 0 b1), .val), ((proj 1 b1), .val), ((proj 2 b1), .val)])], []⟩
theorem eq_r03_Size (R : Orc) (x0 : DV) : P_r03_Size R x0 =
  (og (isAggN 3 x0) <|
  P_r03_Size_3h R (.int .i64 1) (.int .i64 0) x0) := evP_of [] (by kernel_rfl)
theorem eq_r03_Size_3h (R : Orc) (t3 : DV) (t4 : DV) (b1 : DV) : P_r03_Size_3h R t3 t4 b1 =
  (ob (dLen (proj 2 b1)) fun d1 =>
  ob (dBin .lss t4 d1) fun d2 =>
  oif d2
   (ob (dIdx 3 (proj 2 b1) t4) fun d3 =>
   ob (R.p F_r03_Size [(.agg [(proj 0 d3), (proj 1 d3), (proj 2 d3)])]) fun d4 =>
   ob (dBin .add t3 d4) fun d5 =>
   ob (dBin .add t4 (.int .i64 1)) fun d6 =>
   P_r03_Size_3h R d5 d6 b1)
   (some t3)) := headP_of [] (by kernel_rfl)
theorem fix_r03_Size (x0 : DV) : (run cfg).p F_r03_Size [x0] = P_r03_Size (run cfg) x0 :=
  (fix_pure (C := cfg) (f := F_r03_Size) (fn := Try.f14) (c := code_r03_Size) (by kernel_rfl) Try.func14 (by kernel_rfl)).trans (by kernel_rfl)
theorem call_r03_Size (x0 : DV) {d : DV} (h : P_r03_Size (run cfg) x0 = some d) : (run cfg).p F_r03_Size [x0] = some d := (fix_r03_Size x0).trans h

noncomputable def code_r03_Kids : Code := Try.f15.body.getD .skip
noncomputable def P_r03_Kids (R : Orc) (x0 : DV) : Option DV := evP cfg R fl_r03_Kids (retP cfg.P Try.f15) [] code_r03_Kids (initSt Try.f15 [(x0, .val)] [])
theorem eq_r03_Kids (R : Orc) (x0 : DV) : P_r03_Kids R x0 =
  (ob (dBin .eql x0 (.int .i64 1)) fun d1 =>
  oif d1
   (some (.int .i64 0))
   (ob (dBin .eql x0 (.int .i64 2)) fun d2 =>
   oif d2
    (some (.int .i64 0))
    (ob (dBin .eql x0 (.int .i64 3)) fun d3 =>
    oif d3
     (some (.int .i64 0))
     (ob (dBin .eql x0 (.int .i64 4)) fun d4 =>
     oif d4
      (some (.int .i64 0))
      (ob (dBin .eql x0 (.int .i64 5)) fun d5 =>
      oif d5
       (some (.int .i64 0))
       (ob (dBin .eql x0 (.int .i64 6)) fun d6 =>
       oif d6
        (some (.int .i64 0))
        (ob (dBin .eql x0 (.int .i64 8)) fun d7 =>
        oif d7
         (some (.int .i64 1))
         (ob (dBin .eql x0 (.int .i64 7)) fun d8 =>
         oif d8
          (some (.int .i64 2))
          (ob (dBin .eql x0 (.int .i64 9)) fun d9 =>
          oif d9
           (some (.int .i64 2))
           (some (.int .i64 (-1)))))))))))) := evP_of [] (by kernel_rfl)
theorem fix_r03_Kids (x0 : DV) : (run cfg).p F_r03_Kids [x0] = P_r03_Kids (run cfg) x0 :=
  (fix_pure (C := cfg) (f := F_r03_Kids) (fn := Try.f15) (c := code_r03_Kids) (by kernel_rfl) Try.func15 (by kernel_rfl)).trans (by kernel_rfl)
theorem call_r03_Kids (x0 : DV) {d : DV} (h : P_r03_Kids (run cfg) x0 = some d) : (run cfg).p F_r03_Kids [x0] = some d := (fix_r03_Kids x0).trans h

noncomputable def code_term_right : Code := Try.f16.body.getD .skip
noncomputable def P_term_right (R : Orc) (x0 : DV) : Option DV := evP cfg R fl_term_right (retP cfg.P Try.f16) [] code_term_right (initSt Try.f16 [(x0, .val)] [])
noncomputable def P_term_right_4h (R : Orc) (t9 : DV) (t10 : DV) (t11 : DV) : Option DV := headP cfg R fl_term_right (retP cfg.P Try.f16) [true, true, false, true, false] code_term_right ⟨spread .undef 19 0 [(9, t9), (10, t10), (11, t11)], spread .val 19 0 [], spread none 19 0 [], []⟩
theorem eq_term_right (R : Orc) (x0 : DV) : P_term_right R x0 =
  (og (isAggN 20 x0) <|
  ob (R.p F_term_one [(.agg [(proj 0 x0), (proj 1 x0), (proj 2 x0), (proj 3 x0), (proj 4 x0), (proj 5 x0), (proj 6 x0), (proj 7 x0), (proj 8 x0), (proj 9 x0), (proj 10 x0), (proj 11 x0), (proj 12 x0), (proj 13 x0), (proj 14 x0), (proj 15 x0), (proj 16 x0), (proj 17 x0), (proj 18 x0), (proj 19 x0)])]) fun d1 =>
  ob (dUn .not d1) fun d2 =>
  oif d2
   (some (.bool false))
   (ob (dLen (proj 19 x0)) fun d3 =>
   P_term_right_4h R (proj 19 x0) d3 (.int .i64 0))) := evP_of [] (by kernel_rfl)
theorem eq_term_right_4h (R : Orc) (t9 : DV) (t10 : DV) (t11 : DV) : P_term_right_4h R t9 t10 t11 =
  (ob (dBin .lss t11 t10) fun d1 =>
  oif d1
   (ob (dIdx 20 t9 t11) fun d2 =>
   ob (R.p F_term_right [(.agg [(proj 0 d2), (proj 1 d2), (proj 2 d2), (proj 3 d2), (proj 4 d2), (proj 5 d2), (proj 6 d2), (proj 7 d2), (proj 8 d2), (proj 9 d2), (proj 10 d2), (proj 11 d2), (proj 12 d2), (proj 13 d2), (proj 14 d2), (proj 15 d2), (proj 16 d2), (proj 17 d2), (proj 18 d2), (proj 19 d2)])]) fun d3 =>
   ob (dUn .not d3) fun d4 =>
   oif d4
    (some (.bool false))
    (ob (dBin .add t11 (.int .i64 1)) fun d5 =>
    P_term_right_4h R t9 t10 d5))
   (some (.bool true))) := headP_of [] (by kernel_rfl)
theorem fix_term_right (x0 : DV) : (run cfg).p F_term_right [x0] = P_term_right (run cfg) x0 :=
  (fix_pure (C := cfg) (f := F_term_right) (fn := Try.f16) (c := code_term_right) (by kernel_rfl) Try.func16 (by kernel_rfl)).trans (by kernel_rfl)
theorem call_term_right (x0 : DV) {d : DV} (h : P_term_right (run cfg) x0 = some d) : (run cfg).p F_term_right [x0] = some d := (fix_term_right x0).trans h

noncomputable def code_word_Name : Code := Try.f17.body.getD .skip
noncomputable def P_word_Name (R : Orc) (x0 : DV) : Option DV := evP cfg R fl_word_Name (retP cfg.P Try.f17) [] code_word_Name (initSt Try.f17 [(x0, .val)] [])
noncomputable def P_word_Name_4h (R : Orc) (t0 : DV) (t3 : DV) : Option DV := headP cfg R fl_word_Name (retP cfg.P Try.f17) [true, true, false, true, false] code_word_Name ⟨spread .undef 37 0 [(0, t0), (3, t3)], spread .val 37 0 [], spread none 37 0 [], []⟩
set_option maxRecDepth 100000 in
theorem eq_word_Name (R : Orc) (x0 : DV) : P_word_Name R x0 =
  (ob (dLenS x0) fun d1 =>
  ob (dBin .lss d1 (.int .i64 1)) fun d2 =>
  ogd d2
   (some (.bool false))
   (ob (dLenS x0) fun d3 =>
   ob (dBin .gtr d3 (.int .i64 32)) fun d4 =>
   ogd d4
    (some (.bool false))
    (ob (dStrIdx x0 (.int .i64 0)) fun d5 =>
    ob (dBin .lss d5 (.int .u8 97)) fun d6 =>
    ogd d6
     (some (.bool false))
     (ob (dStrIdx x0 (.int .i64 0)) fun d7 =>
     ob (dBin .gtr d7 (.int .u8 122)) fun d8 =>
     ogd d8
      (some (.bool false))
      (ob (R.p F_word_Key [x0]) fun d9 =>
      oif d9
       (some (.bool false))
       (P_word_Name_4h R x0 (.int .i64 1)))
      none)
     none)
    none)
   none) := evP_of [] (by kernel_rfl)
theorem eq_word_Name_4h (R : Orc) (t0 : DV) (t3 : DV) : P_word_Name_4h R t0 t3 =
  (ob (dLenS t0) fun d1 =>
  ob (dBin .lss t3 d1) fun d2 =>
  oif d2
   (ob (dStrIdx t0 t3) fun d3 =>
   ob (R.p F_word_inner [d3]) fun d4 =>
   ob (dUn .not d4) fun d5 =>
   oif d5
    (some (.bool false))
    (ob (dBin .add t3 (.int .i64 1)) fun d6 =>
    P_word_Name_4h R t0 d6))
   (some (.bool true))) := headP_of [] (by kernel_rfl)
theorem fix_word_Name (x0 : DV) : (run cfg).p F_word_Name [x0] = P_word_Name (run cfg) x0 :=
  (fix_pure (C := cfg) (f := F_word_Name) (fn := Try.f17) (c := code_word_Name) (by kernel_rfl) Try.func17 (by kernel_rfl)).trans (by kernel_rfl)
theorem call_word_Name (x0 : DV) {d : DV} (h : P_word_Name (run cfg) x0 = some d) : (run cfg).p F_word_Name [x0] = some d := (fix_word_Name x0).trans h

noncomputable def code_term_For : Code := Try.f18.body.getD .skip
noncomputable def P_term_For (R : Orc) (x0 : DV) (x1 : DV) (x2 : DV) (x3 : DV) : Option DV := evP cfg R fl_term_For (retP cfg.P Try.f18) [] code_term_For (initSt Try.f18 [(x0, .val), (x1, .val), (x2, .val), (x3, .val)] [])
theorem eq_term_For (R : Orc) (x0 : DV) (x1 : DV) (x2 : DV) (x3 : DV) : P_term_For R x0 x1 x2 x3 =
  (og (isAggN 20 x0) <|
  og (isAggN 20 x3) <|
  og (isCell x1) <|
  og (isCell x2) <|
  ob (R.r F_term_putting_in [(.undef, (.ptr 0 0)), ((.agg [(proj 0 x0), (proj 1 x0), (proj 2 x0), (proj 3 x0), (proj 4 x0), (proj 5 x0), (proj 6 x0), (proj 7 x0), (proj 8 x0), (proj 9 x0), (proj 10 x0), (proj 11 x0), (proj 12 x0), (proj 13 x0), (proj 14 x0), (proj 15 x0), (proj 16 x0), (proj 17 x0), (proj 18 x0), (proj 19 x0)]), .val)] [SObj.box [(x1, .val), (x2, .val), ((proj 0 x3), .val), ((proj 1 x3), .val), ((proj 2 x3), .val), ((proj 3 x3), .val), ((proj 4 x3), .val), ((proj 5 x3), .val), ((proj 6 x3), .val), ((proj 7 x3), .val), ((proj 8 x3), .val), ((proj 9 x3), .val), ((proj 10 x3), .val), ((proj 11 x3), .val), ((proj 12 x3), .val), ((proj 13 x3), .val), ((proj 14 x3), .val), ((proj 15 x3), .val), ((proj 16 x3), .val), ((proj 17 x3), .val), ((proj 18 x3), .val), ((proj 19 x3), .val)]]) fun q1 =>
  ob (dExt 0 (.tup q1.1)) fun d2 =>
  ob (dExt 1 (.tup q1.1)) fun d3 =>
  og (isAggN 20 d2) <|
  ob (dUn .not d3) fun d4 =>
  oif d4
   (some (.tup [(.agg [(.int .i64 0), (.int .i64 0), (.int .i64 0), (.str ⟨#[]⟩), (.str ⟨#[]⟩), (.int .i64 0), (.str ⟨#[]⟩), (.int .i64 0), (.int .i64 0), (.bool false), (.list 1 []), (.int .i64 0), (.int .i64 0), (.list 3 []), (.int .i64 0), (.int .i64 0), (.list 3 []), (.list 3 []), (.list 7 []), (.list 20 [])]), (.int .i64 8)]))
   (some (.tup [(.agg [(proj 0 d2), (proj 1 d2), (proj 2 d2), (proj 3 d2), (proj 4 d2), (proj 5 d2), (proj 6 d2), (proj 7 d2), (proj 8 d2), (proj 9 d2), (proj 10 d2), (proj 11 d2), (proj 12 d2), (proj 13 d2), (proj 14 d2), (proj 15 d2), (proj 16 d2), (proj 17 d2), (proj 18 d2), (proj 19 d2)]), (.int .i64 0)]))) := evP_of [] (by kernel_rfl)
theorem fix_term_For (x0 : DV) (x1 : DV) (x2 : DV) (x3 : DV) : (run cfg).p F_term_For [x0, x1, x2, x3] = P_term_For (run cfg) x0 x1 x2 x3 :=
  (fix_pure (C := cfg) (f := F_term_For) (fn := Try.f18) (c := code_term_For) (by kernel_rfl) Try.func18 (by kernel_rfl)).trans (by kernel_rfl)
theorem call_term_For (x0 : DV) (x1 : DV) (x2 : DV) (x3 : DV) {d : DV} (h : P_term_For (run cfg) x0 x1 x2 x3 = some d) : (run cfg).p F_term_For [x0, x1, x2, x3] = some d := (fix_term_For x0 x1 x2 x3).trans h

end Go.Su

/-
  Equations of the program's functions: by program.
-/
namespace Go.Su
open Go.Proofs
set_option linter.unusedVariables false

noncomputable def code_term_free : Code := Try.f19.body.getD .skip
noncomputable def P_term_free (R : Orc) (x0 : DV) (x1 : Nat) (x2 : Nat) (sg : List SObj) : Option (List DV × List SObj) := evP cfg R fl_term_free (retR cfg.P Try.f19 sig_term_free) [] code_term_free (initSt Try.f19 [(x0, .val), (.undef, (.map x1)), (.undef, (.map x2))] sg)
noncomputable def P_term_free_3 (R : Orc) (t1i : Nat) (t2i : Nat) (b3 : DV) (sg : List SObj) : Option (List DV × List SObj) := evP cfg R fl_term_free (retR cfg.P Try.f19 sig_term_free) [true, true] code_term_free ⟨spread .undef 66 0 [], spread .val 66 0 [(1, (.map t1i)), (2, (.map t2i)), (3, (.loc 3 0))], spread none 66 0 [(3, some [((proj 0 b3), .val), ((proj 1 b3), .val), ((proj 2 b3), .val), ((proj 3 b3), .val), ((proj 4 b3), .val), ((proj 5 b3), .val), ((proj 6 b3), .val), ((proj 7 b3), .val), ((proj 8 b3), .val), ((proj 9 b3), .val), ((proj 10 b3), .val), ((proj 11 b3), .val), ((proj 12 b3), .val), ((proj 13 b3), .val), ((proj 14 b3), .val), ((proj 15 b3), .val), ((proj 16 b3), .val), ((proj 17 b3), .val), ((proj 18 b3), .val), ((proj 19 b3), .val)])], sg⟩
noncomputable def P_term_free_4h (R : Orc) (t1i : Nat) (t2i : Nat) (t29 : DV) (t30 : DV) (t31 : DV) (b3 : DV) (sg : List SObj) : Option (List DV × List SObj) := headP cfg R fl_term_free (retR cfg.P Try.f19 sig_term_free) [true, true, true, false] code_term_free ⟨spread .undef 66 0 [(29, t29), (30, t30), (31, t31)], spread .val 66 0 [(1, (.map t1i)), (2, (.map t2i)), (3, (.loc 3 0))], spread none 66 0 [(3, some [((proj 0 b3), .val), ((proj 1 b3), .val), ((proj 2 b3), .val), ((proj 3 b3), .val), ((proj 4 b3), .val), ((proj 5 b3), .val), ((proj 6 b3), .val), ((proj 7 b3), .val), ((proj 8 b3), .val), ((proj 9 b3), .val), ((proj 10 b3), .val), ((proj 11 b3), .val), ((proj 12 b3), .val), ((proj 13 b3), .val), ((proj 14 b3), .val), ((proj 15 b3), .val), ((proj 16 b3), .val), ((proj 17 b3), .val), ((proj 18 b3), .val), ((proj 19 b3), .val)])], sg⟩
noncomputable def P_term_free_8h (R : Orc) (t1i : Nat) (t2i : Nat) (t8 : DV) (t29 : DV) (t30 : DV) (t31 : DV) (t39 : DV) (t40 : DV) (t41 : DV) (b3 : DV) (b7 : DV) (sg : List SObj) : Option (List DV × List SObj) := headP cfg R fl_term_free (retR cfg.P Try.f19 sig_term_free) [true, true, true, false, false, true, true, false, false, true, true, false, true, false] code_term_free ⟨spread .undef 66 0 [(8, t8), (29, t29), (30, t30), (31, t31), (39, t39), (40, t40), (41, t41)], spread .val 66 0 [(1, (.map t1i)), (2, (.map t2i)), (3, (.loc 3 0)), (7, (.loc 7 0))], spread none 66 0 [(3, some [((proj 0 b3), .val), ((proj 1 b3), .val), ((proj 2 b3), .val), ((proj 3 b3), .val), ((proj 4 b3), .val), ((proj 5 b3), .val), ((proj 6 b3), .val), ((proj 7 b3), .val), ((proj 8 b3), .val), ((proj 9 b3), .val), ((proj 10 b3), .val), ((proj 11 b3), .val), ((proj 12 b3), .val), ((proj 13 b3), .val), ((proj 14 b3), .val), ((proj 15 b3), .val), ((proj 16 b3), .val), ((proj 17 b3), .val), ((proj 18 b3), .val), ((proj 19 b3), .val)]), (7, some [((proj 0 b7), .val), ((proj 1 b7), .val), ((proj 2 b7), .val), ((proj 3 b7), .val), ((proj 4 b7), .val), ((proj 5 b7), .val), ((proj 6 b7), .val), ((proj 7 b7), .val), ((proj 8 b7), .val), ((proj 9 b7), .val), ((proj 10 b7), .val), ((proj 11 b7), .val), ((proj 12 b7), .val), ((proj 13 b7), .val), ((proj 14 b7), .val), ((proj 15 b7), .val), ((proj 16 b7), .val), ((proj 17 b7), .val), ((proj 18 b7), .val), ((proj 19 b7), .val)])], sg⟩
noncomputable def P_term_free_14h (R : Orc) (t1i : Nat) (t2i : Nat) (t29 : DV) (t30 : DV) (t31 : DV) (t54 : DV) (t55 : DV) (t56 : DV) (b3 : DV) (sg : List SObj) : Option (List DV × List SObj) := headP cfg R fl_term_free (retR cfg.P Try.f19 sig_term_free) [true, true, true, false, false, true, true, false, false, true, true, true, true, true, false] code_term_free ⟨spread .undef 66 0 [(29, t29), (30, t30), (31, t31), (54, t54), (55, t55), (56, t56)], spread .val 66 0 [(1, (.map t1i)), (2, (.map t2i)), (3, (.loc 3 0))], spread none 66 0 [(3, some [((proj 0 b3), .val), ((proj 1 b3), .val), ((proj 2 b3), .val), ((proj 3 b3), .val), ((proj 4 b3), .val), ((proj 5 b3), .val), ((proj 6 b3), .val), ((proj 7 b3), .val), ((proj 8 b3), .val), ((proj 9 b3), .val), ((proj 10 b3), .val), ((proj 11 b3), .val), ((proj 12 b3), .val), ((proj 13 b3), .val), ((proj 14 b3), .val), ((proj 15 b3), .val), ((proj 16 b3), .val), ((proj 17 b3), .val), ((proj 18 b3), .val), ((proj 19 b3), .val)])], sg⟩
theorem eq_term_free (R : Orc) (x0 : DV) (x1 : Nat) (x2 : Nat) (sg : List SObj) : P_term_free R x0 x1 x2 sg =
  (og (isAggN 20 x0) <|
  ob (dBin .eql (proj 0 x0) (.int .i64 1)) fun d1 =>
  ogd d1
   (og (isKey true (proj 3 x0) && true) <|
   ob (sgMap sg x1) fun m2 =>
   og (m2.1 == true) <|
   ob (dBin .eql ((mGet m2.2 (proj 3 x0)).getD (.int .i64 0)) (.int .i64 0)) fun d3 =>
   oif d3
    (og (isKey true (proj 3 x0) && true) <|
    ob (sgMap sg x2) fun m4 =>
    og (m4.1 == true) <|
    ob (dBin .add ((mGet m4.2 (proj 3 x0)).getD (.int .i64 0)) (.int .i64 1)) fun d5 =>
    og (isKey true (proj 3 x0) && true && true) <|
    ob (sgMap sg x2) fun m6 =>
    og (m6.1 == true) <|
    P_term_free_3 R x1 x2 x0 (sg.set x2 (.map true (mSet m6.2 (proj 3 x0) d5))))
    (P_term_free_3 R x1 x2 x0 sg))
   (P_term_free_3 R x1 x2 x0 sg)
   none) := evP_of [3] (by kernel_rfl)
theorem eq_term_free_3 (R : Orc) (t1i : Nat) (t2i : Nat) (b3 : DV) (sg : List SObj) : P_term_free_3 R t1i t2i b3 sg =
  (ob (dLen (proj 19 b3)) fun d1 =>
  P_term_free_4h R t1i t2i (proj 19 b3) d1 (.int .i64 0) b3 sg) := evP_of [3] (by kernel_rfl)
theorem eq_term_free_4h (R : Orc) (t1i : Nat) (t2i : Nat) (t29 : DV) (t30 : DV) (t31 : DV) (b3 : DV) (sg : List SObj) : P_term_free_4h R t1i t2i t29 t30 t31 b3 sg =
  (ob (dBin .lss t31 t30) fun d1 =>
  oif d1
   (ob (dIdx 20 t29 t31) fun d2 =>
   ob (R.p F_term_binds [(.agg [(proj 0 b3), (proj 1 b3), (proj 2 b3), (proj 3 b3), (proj 4 b3), (proj 5 b3), (proj 6 b3), (proj 7 b3), (proj 8 b3), (proj 9 b3), (proj 10 b3), (proj 11 b3), (proj 12 b3), (proj 13 b3), (proj 14 b3), (proj 15 b3), (proj 16 b3), (proj 17 b3), (proj 18 b3), (proj 19 b3)]), t31]) fun d3 =>
   ob (dLen d3) fun d4 =>
   P_term_free_8h R t1i t2i d3 t29 t30 t31 d3 d4 (.int .i64 0) b3 d2 sg)
   (some ([], sg))) := headP_of [3] (by kernel_rfl)
theorem eq_term_free_8h (R : Orc) (t1i : Nat) (t2i : Nat) (t8 : DV) (t29 : DV) (t30 : DV) (t31 : DV) (t39 : DV) (t40 : DV) (t41 : DV) (b3 : DV) (b7 : DV) (sg : List SObj) : P_term_free_8h R t1i t2i t8 t29 t30 t31 t39 t40 t41 b3 b7 sg =
  (ob (dBin .lss t41 t40) fun d1 =>
  oif d1
   (ob (dIdx 1 t39 t41) fun d2 =>
   og (isLeaf d2) <|
   og (isKey true d2 && true) <|
   ob (sgMap sg t1i) fun m3 =>
   og (m3.1 == true) <|
   ob (dBin .add ((mGet m3.2 d2).getD (.int .i64 0)) (.int .i64 1)) fun d4 =>
   og (isKey true d2 && true && true) <|
   ob (sgMap sg t1i) fun m5 =>
   og (m5.1 == true) <|
   ob (dBin .add t41 (.int .i64 1)) fun d6 =>
   P_term_free_8h R t1i t2i t8 t29 t30 t31 t39 t40 d6 b3 b7 (sg.set t1i (.map true (mSet m5.2 d2 d4))))
   (ob (R.r F_term_free [((.agg [(proj 0 b7), (proj 1 b7), (proj 2 b7), (proj 3 b7), (proj 4 b7), (proj 5 b7), (proj 6 b7), (proj 7 b7), (proj 8 b7), (proj 9 b7), (proj 10 b7), (proj 11 b7), (proj 12 b7), (proj 13 b7), (proj 14 b7), (proj 15 b7), (proj 16 b7), (proj 17 b7), (proj 18 b7), (proj 19 b7)]), .val), (.undef, (.map t1i)), (.undef, (.map t2i))] sg) fun q7 =>
   ob (dLen t8) fun d8 =>
   P_term_free_14h R t1i t2i t29 t30 t31 t8 d8 (.int .i64 0) b3 q7.2)) := headP_of [3] (by kernel_rfl)
theorem eq_term_free_14h (R : Orc) (t1i : Nat) (t2i : Nat) (t29 : DV) (t30 : DV) (t31 : DV) (t54 : DV) (t55 : DV) (t56 : DV) (b3 : DV) (sg : List SObj) : P_term_free_14h R t1i t2i t29 t30 t31 t54 t55 t56 b3 sg =
  (ob (dBin .lss t56 t55) fun d1 =>
  oif d1
   (ob (dIdx 1 t54 t56) fun d2 =>
   og (isLeaf d2) <|
   og (isKey true d2 && true) <|
   ob (sgMap sg t1i) fun m3 =>
   og (m3.1 == true) <|
   ob (dBin .sub ((mGet m3.2 d2).getD (.int .i64 0)) (.int .i64 1)) fun d4 =>
   og (isKey true d2 && true && true) <|
   ob (sgMap sg t1i) fun m5 =>
   og (m5.1 == true) <|
   ob (dBin .add t56 (.int .i64 1)) fun d6 =>
   P_term_free_14h R t1i t2i t29 t30 t31 t54 t55 d6 b3 (sg.set t1i (.map true (mSet m5.2 d2 d4))))
   (ob (dBin .add t31 (.int .i64 1)) fun d7 =>
   P_term_free_4h R t1i t2i t29 t30 d7 b3 sg)) := headP_of [3] (by kernel_rfl)
theorem fix_term_free (x0 : DV) (x1 : Nat) (x2 : Nat) (sg : List SObj) : (run cfg).r F_term_free [(x0, .val), (.undef, (.map x1)), (.undef, (.map x2))] sg = P_term_free (run cfg) x0 x1 x2 sg :=
  (fix_raw (C := cfg) (f := F_term_free) (s := sig_term_free) (fn := Try.f19) (c := code_term_free) (by kernel_rfl) Try.func19 (by kernel_rfl)).trans (by kernel_rfl)
theorem call_term_free (x0 : DV) (x1 : Nat) (x2 : Nat) (sg : List SObj) {q : List DV × List SObj} (h : P_term_free (run cfg) x0 x1 x2 sg = some q) : (run cfg).r F_term_free [(x0, .val), (.undef, (.map x1)), (.undef, (.map x2))] sg = some q := (fix_term_free x0 x1 x2 sg).trans h

noncomputable def code_r03_Leaf : Code := Try.f21.body.getD .skip
noncomputable def P_r03_Leaf (R : Orc) (x0 : DV) : Option DV := evP cfg R fl_r03_Leaf (retP cfg.P Try.f21) [] code_r03_Leaf (initSt Try.f21 [(x0, .val)] [])
theorem eq_r03_Leaf (R : Orc) (x0 : DV) : P_r03_Leaf R x0 =
  (og (isCell x0) <|
  some (.agg [x0, (.int .i64 0), (.list 3 [])])) := evP_of [] (by kernel_rfl)
theorem fix_r03_Leaf (x0 : DV) : (run cfg).p F_r03_Leaf [x0] = P_r03_Leaf (run cfg) x0 :=
  (fix_pure (C := cfg) (f := F_r03_Leaf) (fn := Try.f21) (c := code_r03_Leaf) (by kernel_rfl) Try.func21 (by kernel_rfl)).trans (by kernel_rfl)
theorem call_r03_Leaf (x0 : DV) {d : DV} (h : P_r03_Leaf (run cfg) x0 = some d) : (run cfg).p F_r03_Leaf [x0] = some d := (fix_r03_Leaf x0).trans h

noncomputable def code_term_Check : Code := Try.f22.body.getD .skip
noncomputable def P_term_Check (R : Orc) (x0 : DV) : Option DV := evP cfg R fl_term_Check (retP cfg.P Try.f22) [] code_term_Check (initSt Try.f22 [(x0, .val)] [])
theorem eq_term_Check (R : Orc) (x0 : DV) : P_term_Check R x0 =
  (og (isAggN 20 x0) <|
  ob (R.p F_term_right [(.agg [(proj 0 x0), (proj 1 x0), (proj 2 x0), (proj 3 x0), (proj 4 x0), (proj 5 x0), (proj 6 x0), (proj 7 x0), (proj 8 x0), (proj 9 x0), (proj 10 x0), (proj 11 x0), (proj 12 x0), (proj 13 x0), (proj 14 x0), (proj 15 x0), (proj 16 x0), (proj 17 x0), (proj 18 x0), (proj 19 x0)])]) fun d1 =>
  ob (dUn .not d1) fun d2 =>
  oif d2
   (some (.int .i64 1))
   (some (.int .i64 0))) := evP_of [] (by kernel_rfl)
theorem fix_term_Check (x0 : DV) : (run cfg).p F_term_Check [x0] = P_term_Check (run cfg) x0 :=
  (fix_pure (C := cfg) (f := F_term_Check) (fn := Try.f22) (c := code_term_Check) (by kernel_rfl) Try.func22 (by kernel_rfl)).trans (by kernel_rfl)
theorem call_term_Check (x0 : DV) {d : DV} (h : P_term_Check (run cfg) x0 = some d) : (run cfg).p F_term_Check [x0] = some d := (fix_term_Check x0).trans h

noncomputable def code_term_Size : Code := Try.f23.body.getD .skip
noncomputable def P_term_Size (R : Orc) (x0 : DV) : Option DV := evP cfg R fl_term_Size (retP cfg.P Try.f23) [] code_term_Size (initSt Try.f23 [(x0, .val)] [])
noncomputable def P_term_Size_3h (R : Orc) (t3 : DV) (t7 : DV) (t8 : DV) (t9 : DV) : Option DV := headP cfg R fl_term_Size (retP cfg.P Try.f23) [true, true, false, true, false] code_term_Size ⟨spread .undef 19 0 [(3, t3), (7, t7), (8, t8), (9, t9)], spread .val 19 0 [], spread none 19 0 [], []⟩
theorem eq_term_Size (R : Orc) (x0 : DV) : P_term_Size R x0 =
  (og (isAggN 20 x0) <|
  ob (dLen (proj 19 x0)) fun d1 =>
  P_term_Size_3h R (.int .i64 1) (proj 19 x0) d1 (.int .i64 0)) := evP_of [] (by kernel_rfl)
theorem eq_term_Size_3h (R : Orc) (t3 : DV) (t7 : DV) (t8 : DV) (t9 : DV) : P_term_Size_3h R t3 t7 t8 t9 =
  (ob (dBin .lss t9 t8) fun d1 =>
  oif d1
   (ob (dIdx 20 t7 t9) fun d2 =>
   ob (R.p F_term_Size [(.agg [(proj 0 d2), (proj 1 d2), (proj 2 d2), (proj 3 d2), (proj 4 d2), (proj 5 d2), (proj 6 d2), (proj 7 d2), (proj 8 d2), (proj 9 d2), (proj 10 d2), (proj 11 d2), (proj 12 d2), (proj 13 d2), (proj 14 d2), (proj 15 d2), (proj 16 d2), (proj 17 d2), (proj 18 d2), (proj 19 d2)])]) fun d3 =>
   ob (dBin .add t3 d3) fun d4 =>
   ob (dBin .add t9 (.int .i64 1)) fun d5 =>
   P_term_Size_3h R d4 t7 t8 d5)
   (some t3)) := headP_of [] (by kernel_rfl)
theorem fix_term_Size (x0 : DV) : (run cfg).p F_term_Size [x0] = P_term_Size (run cfg) x0 :=
  (fix_pure (C := cfg) (f := F_term_Size) (fn := Try.f23) (c := code_term_Size) (by kernel_rfl) Try.func23 (by kernel_rfl)).trans (by kernel_rfl)
theorem call_term_Size (x0 : DV) {d : DV} (h : P_term_Size (run cfg) x0 = some d) : (run cfg).p F_term_Size [x0] = some d := (fix_term_Size x0).trans h

noncomputable def code_keep_Texts : Code := Try.f24.body.getD .skip
noncomputable def P_keep_Texts (R : Orc) (x0 : DV) (x1 : DV) : Option DV := evP cfg R fl_keep_Texts (retP cfg.P Try.f24) [] code_keep_Texts (initSt Try.f24 [(x0, .val), (x1, .val)] [])
noncomputable def P_keep_Texts_4h (R : Orc) (t0 : DV) (t1 : DV) (t5 : DV) : Option DV := headP cfg R fl_keep_Texts (retP cfg.P Try.f24) [true, true, false, true, false] code_keep_Texts ⟨spread .undef 26 0 [(0, t0), (1, t1), (5, t5)], spread .val 26 0 [], spread none 26 0 [], []⟩
theorem eq_keep_Texts (R : Orc) (x0 : DV) (x1 : DV) : P_keep_Texts R x0 x1 =
  (ob (dLen x0) fun d1 =>
  ob (dLen x1) fun d2 =>
  ob (dBin .neq d1 d2) fun d3 =>
  oif d3
   (some (.bool false))
   (P_keep_Texts_4h R x0 x1 (.int .i64 0))) := evP_of [] (by kernel_rfl)
theorem eq_keep_Texts_4h (R : Orc) (t0 : DV) (t1 : DV) (t5 : DV) : P_keep_Texts_4h R t0 t1 t5 =
  (ob (dLen t0) fun d1 =>
  ob (dBin .lss t5 d1) fun d2 =>
  oif d2
   (ob (dIdx 1 t0 t5) fun d3 =>
   og (isLeaf d3) <|
   ob (dIdx 1 t1 t5) fun d4 =>
   og (isLeaf d4) <|
   ob (dBin .neq d3 d4) fun d5 =>
   oif d5
    (some (.bool false))
    (ob (dBin .add t5 (.int .i64 1)) fun d6 =>
    P_keep_Texts_4h R t0 t1 d6))
   (some (.bool true))) := headP_of [] (by kernel_rfl)
theorem fix_keep_Texts (x0 : DV) (x1 : DV) : (run cfg).p F_keep_Texts [x0, x1] = P_keep_Texts (run cfg) x0 x1 :=
  (fix_pure (C := cfg) (f := F_keep_Texts) (fn := Try.f24) (c := code_keep_Texts) (by kernel_rfl) Try.func24 (by kernel_rfl)).trans (by kernel_rfl)
theorem call_keep_Texts (x0 : DV) (x1 : DV) {d : DV} (h : P_keep_Texts (run cfg) x0 x1 = some d) : (run cfg).p F_keep_Texts [x0, x1] = some d := (fix_keep_Texts x0 x1).trans h

noncomputable def code_term_Same : Code := Try.f25.body.getD .skip
noncomputable def P_term_Same (R : Orc) (x0 : DV) (x1 : DV) : Option DV := evP cfg R fl_term_Same (retP cfg.P Try.f25) [] code_term_Same (initSt Try.f25 [(x0, .val), (x1, .val)] [])
noncomputable def P_term_Same_3 (R : Orc) (b2 : DV) (b3 : DV) : Option DV := evP cfg R fl_term_Same (retP cfg.P Try.f25) [true, true] code_term_Same ⟨spread .undef 108 0 [], spread .val 108 0 [(2, (.loc 2 0)), (3, (.loc 3 0))], spread none 108 0 [(2, some [((proj 0 b2), .val), ((proj 1 b2), .val), ((proj 2 b2), .val), ((proj 3 b2), .val), ((proj 4 b2), .val), ((proj 5 b2), .val), ((proj 6 b2), .val), ((proj 7 b2), .val), ((proj 8 b2), .val), ((proj 9 b2), .val), ((proj 10 b2), .val), ((proj 11 b2), .val), ((proj 12 b2), .val), ((proj 13 b2), .val), ((proj 14 b2), .val), ((proj 15 b2), .val), ((proj 16 b2), .val), ((proj 17 b2), .val), ((proj 18 b2), .val), ((proj 19 b2), .val)]), (3, some [((proj 0 b3), .val), ((proj 1 b3), .val), ((proj 2 b3), .val), ((proj 3 b3), .val), ((proj 4 b3), .val), ((proj 5 b3), .val), ((proj 6 b3), .val), ((proj 7 b3), .val), ((proj 8 b3), .val), ((proj 9 b3), .val), ((proj 10 b3), .val), ((proj 11 b3), .val), ((proj 12 b3), .val), ((proj 13 b3), .val), ((proj 14 b3), .val), ((proj 15 b3), .val), ((proj 16 b3), .val), ((proj 17 b3), .val), ((proj 18 b3), .val), ((proj 19 b3), .val)])], []⟩
set_option maxRecDepth 100000 in
theorem eq_term_Same (R : Orc) (x0 : DV) (x1 : DV) : P_term_Same R x0 x1 =
  (og (isAggN 20 x0) <|
  og (isAggN 20 x1) <|
  ob (dBin .neq (proj 0 x0) (proj 0 x1)) fun d1 =>
  ogd d1
   (some (.bool false))
   (ob (dEqA [.int, .int] (.agg [(proj 1 x0), (proj 2 x0)]) (.agg [(proj 1 x1), (proj 2 x1)])) fun b2 =>
   ogd (.bool !b2)
    (some (.bool false))
    (ob (dBin .neq (proj 3 x0) (proj 3 x1)) fun d3 =>
    ogd d3
     (some (.bool false))
     (ob (dBin .neq (proj 4 x0) (proj 4 x1)) fun d4 =>
     ogd d4
      (some (.bool false))
      (ob (dBin .neq (proj 5 x0) (proj 5 x1)) fun d5 =>
      ogd d5
       (some (.bool false))
       (ob (dBin .neq (proj 6 x0) (proj 6 x1)) fun d6 =>
       ogd d6
        (some (.bool false))
        (ob (dBin .neq (proj 7 x0) (proj 7 x1)) fun d7 =>
        ogd d7
         (some (.bool false))
         (ob (dBin .neq (proj 8 x0) (proj 8 x1)) fun d8 =>
         ogd d8
          (some (.bool false))
          (ob (dEqB (proj 9 x0) (proj 9 x1)) fun b9 =>
          oif (.bool !b9)
           (some (.bool false))
           (P_term_Same_3 R x0 x1))
          none)
         none)
        none)
       none)
      none)
     none)
    none)
   none) := evP_of [3] (by kernel_rfl)
set_option maxRecDepth 100000 in
theorem eq_term_Same_3 (R : Orc) (b2 : DV) (b3 : DV) : P_term_Same_3 R b2 b3 =
  (ob (R.p F_slices_Equal__int_int [(proj 10 b2), (proj 10 b3)]) fun d1 =>
  ob (dUn .not d1) fun d2 =>
  ogd d2
   (some (.bool false))
   (ob (R.p F_typ_Same [(.agg [(proj 11 b2), (proj 12 b2), (proj 13 b2)]), (.agg [(proj 11 b3), (proj 12 b3), (proj 13 b3)])]) fun d3 =>
   ob (dUn .not d3) fun d4 =>
   ogd d4
    (some (.bool false))
    (ob (R.p F_typ_Same [(.agg [(proj 14 b2), (proj 15 b2), (proj 16 b2)]), (.agg [(proj 14 b3), (proj 15 b3), (proj 16 b3)])]) fun d5 =>
    ob (dUn .not d5) fun d6 =>
    ogd d6
     (some (.bool false))
     (ob (R.r F_slices_EqualFunc__api_Type__api_Type_api_Type_api_Type [((proj 17 b2), .val), ((proj 17 b3), .val), (.undef, (.fn 37 []))] []) fun q7 =>
     ob (dUn .not (q7.1.getD 0 .undef)) fun d8 =>
     oif d8
      (some (.bool false))
      (ob (R.r F_slices_EqualFunc__api_Pat__api_Pat_api_Pat_api_Pat [((proj 18 b2), .val), ((proj 18 b3), .val), (.undef, (.fn 40 []))] q7.2) fun q9 =>
      ogd (q9.1.getD 0 .undef)
       (ob (R.r F_slices_EqualFunc__api_Term__api_Term_api_Term_api_Term [((proj 19 b2), .val), ((proj 19 b3), .val), (.undef, (.fn 25 []))] q9.2) fun q10 =>
       some (q10.1.getD 0 .undef))
       (some (.bool false))
       none))
     none)
    none)
   none) := evP_of [3] (by kernel_rfl)
theorem fix_term_Same (x0 : DV) (x1 : DV) : (run cfg).p F_term_Same [x0, x1] = P_term_Same (run cfg) x0 x1 :=
  (fix_pure (C := cfg) (f := F_term_Same) (fn := Try.f25) (c := code_term_Same) (by kernel_rfl) Try.func25 (by kernel_rfl)).trans (by kernel_rfl)
theorem call_term_Same (x0 : DV) (x1 : DV) {d : DV} (h : P_term_Same (run cfg) x0 x1 = some d) : (run cfg).p F_term_Same [x0, x1] = some d := (fix_term_Same x0 x1).trans h

noncomputable def code_l03_Heavy : Code := Try.f26.body.getD .skip
noncomputable def P_l03_Heavy (R : Orc) (x0 : DV) : Option DV := evP cfg R fl_l03_Heavy (retP cfg.P Try.f26) [] code_l03_Heavy (initSt Try.f26 [(x0, .val)] [])
noncomputable def P_l03_Heavy_3h (R : Orc) (t0 : DV) (t3 : DV) (t4 : DV) : Option DV := headP cfg R fl_l03_Heavy (retP cfg.P Try.f26) [true, true, false, true, false] code_l03_Heavy ⟨spread .undef 19 0 [(0, t0), (3, t3), (4, t4)], spread .val 19 0 [], spread none 19 0 [], []⟩
theorem eq_l03_Heavy (R : Orc) (x0 : DV) : P_l03_Heavy R x0 =
  (P_l03_Heavy_3h R x0 (.int .i64 0) (.int .i64 0)) := evP_of [] (by kernel_rfl)
theorem eq_l03_Heavy_3h (R : Orc) (t0 : DV) (t3 : DV) (t4 : DV) : P_l03_Heavy_3h R t0 t3 t4 =
  (ob (dLen t0) fun d1 =>
  ob (dBin .lss t4 d1) fun d2 =>
  oif d2
   (ob (dIdx 3 t0 t4) fun d3 =>
   ob (R.p F_l03_count [(.agg [(proj 0 d3), (proj 1 d3), (proj 2 d3)]), t3]) fun d4 =>
   ob (dBin .add t4 (.int .i64 1)) fun d5 =>
   P_l03_Heavy_3h R t0 d4 d5)
   (ob (dBin .gtr t3 (.int .i64 600)) fun d6 =>
   some d6)) := headP_of [] (by kernel_rfl)
theorem fix_l03_Heavy (x0 : DV) : (run cfg).p F_l03_Heavy [x0] = P_l03_Heavy (run cfg) x0 :=
  (fix_pure (C := cfg) (f := F_l03_Heavy) (fn := Try.f26) (c := code_l03_Heavy) (by kernel_rfl) Try.func26 (by kernel_rfl)).trans (by kernel_rfl)
theorem call_l03_Heavy (x0 : DV) {d : DV} (h : P_l03_Heavy (run cfg) x0 = some d) : (run cfg).p F_l03_Heavy [x0] = some d := (fix_l03_Heavy x0).trans h

noncomputable def code_r08_Deep : Code := Try.f27.body.getD .skip
noncomputable def P_r08_Deep (R : Orc) (x0 : DV) (x1 : DV) : Option DV := evP cfg R fl_r08_Deep (retP cfg.P Try.f27) [] code_r08_Deep (initSt Try.f27 [(x0, .val), (x1, .val)] [])
noncomputable def P_r08_Deep_4h (R : Orc) (t1 : DV) (t5 : DV) (b2 : DV) : Option DV := headP cfg R fl_r08_Deep (retP cfg.P Try.f27) [true, true, false, true, false] code_r08_Deep ⟨spread .undef 23 0 [(1, t1), (5, t5)], spread .val 23 0 [(2, (.loc 2 0))], spread none 23 0 [(2, some [((proj 0 b2), .val), ((proj 1 b2), .val), ((proj 2 b2), .val)])], []⟩
theorem eq_r08_Deep (R : Orc) (x0 : DV) (x1 : DV) : P_r08_Deep R x0 x1 =
  (og (isAggN 3 x0) <|
  ob (dBin .leq x1 (.int .i64 0)) fun d1 =>
  oif d1
   (some (.bool true))
   (P_r08_Deep_4h R x1 (.int .i64 0) x0)) := evP_of [] (by kernel_rfl)
theorem eq_r08_Deep_4h (R : Orc) (t1 : DV) (t5 : DV) (b2 : DV) : P_r08_Deep_4h R t1 t5 b2 =
  (ob (dLen (proj 2 b2)) fun d1 =>
  ob (dBin .lss t5 d1) fun d2 =>
  oif d2
   (ob (dIdx 3 (proj 2 b2) t5) fun d3 =>
   ob (dBin .sub t1 (.int .i64 1)) fun d4 =>
   ob (R.p F_r08_Deep [(.agg [(proj 0 d3), (proj 1 d3), (proj 2 d3)]), d4]) fun d5 =>
   oif d5
    (some (.bool true))
    (ob (dBin .add t5 (.int .i64 1)) fun d6 =>
    P_r08_Deep_4h R t1 d6 b2))
   (some (.bool false))) := headP_of [] (by kernel_rfl)
theorem fix_r08_Deep (x0 : DV) (x1 : DV) : (run cfg).p F_r08_Deep [x0, x1] = P_r08_Deep (run cfg) x0 x1 :=
  (fix_pure (C := cfg) (f := F_r08_Deep) (fn := Try.f27) (c := code_r08_Deep) (by kernel_rfl) Try.func27 (by kernel_rfl)).trans (by kernel_rfl)
theorem call_r08_Deep (x0 : DV) (x1 : DV) {d : DV} (h : P_r08_Deep (run cfg) x0 x1 = some d) : (run cfg).p F_r08_Deep [x0, x1] = some d := (fix_r08_Deep x0 x1).trans h

noncomputable def code_r03_Vars : Code := Try.f28.body.getD .skip
noncomputable def P_r03_Vars (R : Orc) (x0 : DV) : Option DV := evP cfg R fl_r03_Vars (retP cfg.P Try.f28) [] code_r03_Vars (initSt Try.f28 [(x0, .val)] [])
theorem eq_r03_Vars (R : Orc) (x0 : DV) : P_r03_Vars R x0 =
  (og (isAggN 3 x0) <|
  ob (R.r F_r03_vars [((.agg [(proj 0 x0), (proj 1 x0), (proj 2 x0)]), .val), ((.list 1 []), .own)] []) fun q1 =>
  some (q1.1.getD 0 .undef)) := evP_of [] (by kernel_rfl)
theorem fix_r03_Vars (x0 : DV) : (run cfg).p F_r03_Vars [x0] = P_r03_Vars (run cfg) x0 :=
  (fix_pure (C := cfg) (f := F_r03_Vars) (fn := Try.f28) (c := code_r03_Vars) (by kernel_rfl) Try.func28 (by kernel_rfl)).trans (by kernel_rfl)
theorem call_r03_Vars (x0 : DV) {d : DV} (h : P_r03_Vars (run cfg) x0 = some d) : (run cfg).p F_r03_Vars [x0] = some d := (fix_r03_Vars x0).trans h

noncomputable def code_term_one : Code := Try.f29.body.getD .skip
noncomputable def P_term_one (R : Orc) (x0 : DV) : Option DV := evP cfg R fl_term_one (retP cfg.P Try.f29) [] code_term_one (initSt Try.f29 [(x0, .val)] [])
noncomputable def P_term_one_4 (R : Orc) (b1 : DV) (b3 : DV) : Option DV := evP cfg R fl_term_one (retP cfg.P Try.f29) [true, true, false, false, true, true] code_term_one ⟨spread .undef 183 0 [], spread .val 183 0 [(1, (.loc 1 0)), (3, (.loc 3 0))], spread none 183 0 [(1, some [((proj 0 b1), .val), ((proj 1 b1), .val), ((proj 2 b1), .val), ((proj 3 b1), .val), ((proj 4 b1), .val), ((proj 5 b1), .val), ((proj 6 b1), .val), ((proj 7 b1), .val), ((proj 8 b1), .val), ((proj 9 b1), .val), ((proj 10 b1), .val), ((proj 11 b1), .val), ((proj 12 b1), .val), ((proj 13 b1), .val), ((proj 14 b1), .val), ((proj 15 b1), .val), ((proj 16 b1), .val), ((proj 17 b1), .val), ((proj 18 b1), .val), ((proj 19 b1), .val)]), (3, some [((proj 0 b3), .val), ((proj 1 b3), .val), ((proj 2 b3), .val), ((proj 3 b3), .val), ((proj 4 b3), .val), ((proj 5 b3), .val), ((proj 6 b3), .val), ((proj 7 b3), .val), ((proj 8 b3), .val), ((proj 9 b3), .val), ((proj 10 b3), .val), ((proj 11 b3), .val), ((proj 12 b3), .val)])], []⟩
noncomputable def P_term_one_6 (R : Orc) (b1 : DV) (b3 : DV) : Option DV := evP cfg R fl_term_one (retP cfg.P Try.f29) [true, true, false, false, true, true, true, true] code_term_one ⟨spread .undef 183 0 [], spread .val 183 0 [(1, (.loc 1 0)), (3, (.loc 3 0))], spread none 183 0 [(1, some [((proj 0 b1), .val), ((proj 1 b1), .val), ((proj 2 b1), .val), ((proj 3 b1), .val), ((proj 4 b1), .val), ((proj 5 b1), .val), ((proj 6 b1), .val), ((proj 7 b1), .val), ((proj 8 b1), .val), ((proj 9 b1), .val), ((proj 10 b1), .val), ((proj 11 b1), .val), ((proj 12 b1), .val), ((proj 13 b1), .val), ((proj 14 b1), .val), ((proj 15 b1), .val), ((proj 16 b1), .val), ((proj 17 b1), .val), ((proj 18 b1), .val), ((proj 19 b1), .val)]), (3, some [((proj 0 b3), .val), ((proj 1 b3), .val), ((proj 2 b3), .val), ((proj 3 b3), .val), ((proj 4 b3), .val), ((proj 5 b3), .val), ((proj 6 b3), .val), ((proj 7 b3), .val), ((proj 8 b3), .val), ((proj 9 b3), .val), ((proj 10 b3), .val), ((proj 11 b3), .val), ((proj 12 b3), .val)])], []⟩
noncomputable def P_term_one_8 (R : Orc) (b1 : DV) (b3 : DV) : Option DV := evP cfg R fl_term_one (retP cfg.P Try.f29) [true, true, false, false, true, true, true, true, true, true] code_term_one ⟨spread .undef 183 0 [], spread .val 183 0 [(1, (.loc 1 0)), (3, (.loc 3 0))], spread none 183 0 [(1, some [((proj 0 b1), .val), ((proj 1 b1), .val), ((proj 2 b1), .val), ((proj 3 b1), .val), ((proj 4 b1), .val), ((proj 5 b1), .val), ((proj 6 b1), .val), ((proj 7 b1), .val), ((proj 8 b1), .val), ((proj 9 b1), .val), ((proj 10 b1), .val), ((proj 11 b1), .val), ((proj 12 b1), .val), ((proj 13 b1), .val), ((proj 14 b1), .val), ((proj 15 b1), .val), ((proj 16 b1), .val), ((proj 17 b1), .val), ((proj 18 b1), .val), ((proj 19 b1), .val)]), (3, some [((proj 0 b3), .val), ((proj 1 b3), .val), ((proj 2 b3), .val), ((proj 3 b3), .val), ((proj 4 b3), .val), ((proj 5 b3), .val), ((proj 6 b3), .val), ((proj 7 b3), .val), ((proj 8 b3), .val), ((proj 9 b3), .val), ((proj 10 b3), .val), ((proj 11 b3), .val), ((proj 12 b3), .val)])], []⟩
noncomputable def P_term_one_10 (R : Orc) (b1 : DV) (b3 : DV) : Option DV := evP cfg R fl_term_one (retP cfg.P Try.f29) [true, true, false, false, true, true, true, true, true, true, true, true] code_term_one ⟨spread .undef 183 0 [], spread .val 183 0 [(1, (.loc 1 0)), (3, (.loc 3 0))], spread none 183 0 [(1, some [((proj 0 b1), .val), ((proj 1 b1), .val), ((proj 2 b1), .val), ((proj 3 b1), .val), ((proj 4 b1), .val), ((proj 5 b1), .val), ((proj 6 b1), .val), ((proj 7 b1), .val), ((proj 8 b1), .val), ((proj 9 b1), .val), ((proj 10 b1), .val), ((proj 11 b1), .val), ((proj 12 b1), .val), ((proj 13 b1), .val), ((proj 14 b1), .val), ((proj 15 b1), .val), ((proj 16 b1), .val), ((proj 17 b1), .val), ((proj 18 b1), .val), ((proj 19 b1), .val)]), (3, some [((proj 0 b3), .val), ((proj 1 b3), .val), ((proj 2 b3), .val), ((proj 3 b3), .val), ((proj 4 b3), .val), ((proj 5 b3), .val), ((proj 6 b3), .val), ((proj 7 b3), .val), ((proj 8 b3), .val), ((proj 9 b3), .val), ((proj 10 b3), .val), ((proj 11 b3), .val), ((proj 12 b3), .val)])], []⟩
noncomputable def P_term_one_12 (R : Orc) (b1 : DV) (b3 : DV) : Option DV := evP cfg R fl_term_one (retP cfg.P Try.f29) [true, true, false, false, true, true, true, true, true, true, true, true, true, true] code_term_one ⟨spread .undef 183 0 [], spread .val 183 0 [(1, (.loc 1 0)), (3, (.loc 3 0))], spread none 183 0 [(1, some [((proj 0 b1), .val), ((proj 1 b1), .val), ((proj 2 b1), .val), ((proj 3 b1), .val), ((proj 4 b1), .val), ((proj 5 b1), .val), ((proj 6 b1), .val), ((proj 7 b1), .val), ((proj 8 b1), .val), ((proj 9 b1), .val), ((proj 10 b1), .val), ((proj 11 b1), .val), ((proj 12 b1), .val), ((proj 13 b1), .val), ((proj 14 b1), .val), ((proj 15 b1), .val), ((proj 16 b1), .val), ((proj 17 b1), .val), ((proj 18 b1), .val), ((proj 19 b1), .val)]), (3, some [((proj 0 b3), .val), ((proj 1 b3), .val), ((proj 2 b3), .val), ((proj 3 b3), .val), ((proj 4 b3), .val), ((proj 5 b3), .val), ((proj 6 b3), .val), ((proj 7 b3), .val), ((proj 8 b3), .val), ((proj 9 b3), .val), ((proj 10 b3), .val), ((proj 11 b3), .val), ((proj 12 b3), .val)])], []⟩
set_option maxRecDepth 100000 in
theorem eq_term_one (R : Orc) (x0 : DV) : P_term_one R x0 =
  (og (isAggN 20 x0) <|
  ob (R.p F_term_shapeOf [(.agg [(proj 0 x0), (proj 1 x0), (proj 2 x0), (proj 3 x0), (proj 4 x0), (proj 5 x0), (proj 6 x0), (proj 7 x0), (proj 8 x0), (proj 9 x0), (proj 10 x0), (proj 11 x0), (proj 12 x0), (proj 13 x0), (proj 14 x0), (proj 15 x0), (proj 16 x0), (proj 17 x0), (proj 18 x0), (proj 19 x0)])]) fun d1 =>
  ob (dExt 0 d1) fun d2 =>
  ob (dExt 1 d1) fun d3 =>
  og (isAggN 13 d2) <|
  ob (dUn .not d3) fun d4 =>
  ogd d4
   (some (.bool false))
   (ob (dLen (proj 19 x0)) fun d5 =>
   ob (dBin .neq d5 (proj 12 d2)) fun d6 =>
   ogd d6
    (some (.bool false))
    (ob (R.p F_term_named [(proj 0 d2), (proj 3 x0)]) fun d7 =>
    ob (dUn .not d7) fun d8 =>
    ogd d8
     (some (.bool false))
     (ob (R.p F_term_named [(proj 1 d2), (proj 4 x0)]) fun d9 =>
     ob (dUn .not d9) fun d10 =>
     ogd d10
      (some (.bool false))
      (ob (R.p F_term_typed [(proj 9 d2), (.agg [(proj 11 x0), (proj 12 x0), (proj 13 x0)])]) fun d11 =>
      ob (dUn .not d11) fun d12 =>
      ogd d12
       (some (.bool false))
       (ob (R.p F_term_typed [(proj 10 d2), (.agg [(proj 14 x0), (proj 15 x0), (proj 16 x0)])]) fun d13 =>
       ob (dUn .not d13) fun d14 =>
       oif d14
        (some (.bool false))
        (P_term_one_4 R x0 d2))
       none)
      none)
     none)
    none)
   none) := evP_of [4, 6, 8, 10, 12] (by kernel_rfl)
set_option maxRecDepth 100000 in
theorem eq_term_one_4 (R : Orc) (b1 : DV) (b3 : DV) : P_term_one_4 R b1 b3 =
  (ob (dUn .not (proj 2 b3)) fun d1 =>
  ogd d1
   (ob (dBin .neq (proj 5 b1) (.int .i64 0)) fun d2 =>
   ogd d2
    (some (.bool false))
    (ob (dBin .eql (proj 0 b1) (.int .i64 3)) fun d3 =>
    ogd d3
     (ob (dBin .neq (proj 5 b1) (.int .i64 0)) fun d4 =>
     ogd d4
      (ob (dBin .neq (proj 5 b1) (.int .i64 1)) fun d5 =>
      oif d5
       (some (.bool false))
       (P_term_one_6 R b1 b3))
      (P_term_one_6 R b1 b3)
      none)
     (P_term_one_6 R b1 b3)
     none)
    none)
   (ob (dBin .eql (proj 0 b1) (.int .i64 3)) fun d6 =>
   ogd d6
    (ob (dBin .neq (proj 5 b1) (.int .i64 0)) fun d7 =>
    ogd d7
     (ob (dBin .neq (proj 5 b1) (.int .i64 1)) fun d8 =>
     oif d8
      (some (.bool false))
      (P_term_one_6 R b1 b3))
     (P_term_one_6 R b1 b3)
     none)
    (P_term_one_6 R b1 b3)
    none)
   none) := evP_of [4, 6, 8, 10, 12] (by kernel_rfl)
set_option maxRecDepth 100000 in
theorem eq_term_one_6 (R : Orc) (b1 : DV) (b3 : DV) : P_term_one_6 R b1 b3 =
  (ob (dUn .not (proj 3 b3)) fun d1 =>
  ogd d1
   (ob (dBin .neq (proj 6 b1) (.str ⟨#[]⟩)) fun d2 =>
   ogd d2
    (some (.bool false))
    (ob (dLenS (proj 6 b1)) fun d3 =>
    ob (dBin .gtr d3 (.int .i64 200)) fun d4 =>
    ogd d4
     (some (.bool false))
     (ob (dUn .not (proj 5 b3)) fun d5 =>
     ogd d5
      (ob (dEqA [.int, .int] (.agg [(proj 1 b1), (proj 2 b1)]) (.agg [(.int .i64 0), (.int .i64 0)])) fun b6 =>
      oif (.bool !b6)
       (some (.bool false))
       (P_term_one_8 R b1 b3))
      (P_term_one_8 R b1 b3)
      none)
     none)
    none)
   (ob (dLenS (proj 6 b1)) fun d7 =>
   ob (dBin .gtr d7 (.int .i64 200)) fun d8 =>
   ogd d8
    (some (.bool false))
    (ob (dUn .not (proj 5 b3)) fun d9 =>
    ogd d9
     (ob (dEqA [.int, .int] (.agg [(proj 1 b1), (proj 2 b1)]) (.agg [(.int .i64 0), (.int .i64 0)])) fun b10 =>
     oif (.bool !b10)
      (some (.bool false))
      (P_term_one_8 R b1 b3))
     (P_term_one_8 R b1 b3)
     none)
    none)
   none) := evP_of [4, 6, 8, 10, 12] (by kernel_rfl)
set_option maxRecDepth 100000 in
theorem eq_term_one_8 (R : Orc) (b1 : DV) (b3 : DV) : P_term_one_8 R b1 b3 =
  (ogd (proj 4 b3)
   (ob (dBin .lss (proj 7 b1) (.int .i64 1)) fun d1 =>
   ogd d1
    (some (.bool false))
    (ob (dBin .gtr (proj 7 b1) (.int .i64 7)) fun d2 =>
    ogd d2
     (some (.bool false))
     (ob (dUn .not (proj 4 b3)) fun d3 =>
     ogd d3
      (ob (dBin .neq (proj 7 b1) (.int .i64 0)) fun d4 =>
      oif d4
       (some (.bool false))
       (P_term_one_10 R b1 b3))
      (P_term_one_10 R b1 b3)
      none)
     none)
    none)
   (ob (dUn .not (proj 4 b3)) fun d5 =>
   ogd d5
    (ob (dBin .neq (proj 7 b1) (.int .i64 0)) fun d6 =>
    oif d6
     (some (.bool false))
     (P_term_one_10 R b1 b3))
    (P_term_one_10 R b1 b3)
    none)
   none) := evP_of [4, 6, 8, 10, 12] (by kernel_rfl)
set_option maxRecDepth 100000 in
theorem eq_term_one_10 (R : Orc) (b1 : DV) (b3 : DV) : P_term_one_10 R b1 b3 =
  (ob (dUn .not (proj 11 b3)) fun d1 =>
  ogd d1
   (ob (dBin .neq (proj 8 b1) (.int .i64 0)) fun d2 =>
   ogd d2
    (some (.bool false))
    (ogd (proj 9 b1)
     (some (.bool false))
     (ob (dBin .lss (proj 8 b1) (.int .i64 0)) fun d3 =>
     ogd d3
      (some (.bool false))
      (ob (dBin .gtr (proj 8 b1) (.int .i64 1048576)) fun d4 =>
      oif d4
       (some (.bool false))
       (P_term_one_12 R b1 b3))
      none)
     none)
    none)
   (ob (dBin .lss (proj 8 b1) (.int .i64 0)) fun d5 =>
   ogd d5
    (some (.bool false))
    (ob (dBin .gtr (proj 8 b1) (.int .i64 1048576)) fun d6 =>
    oif d6
     (some (.bool false))
     (P_term_one_12 R b1 b3))
    none)
   none) := evP_of [4, 6, 8, 10, 12] (by kernel_rfl)
set_option maxRecDepth 100000 in
theorem eq_term_one_12 (R : Orc) (b1 : DV) (b3 : DV) : P_term_one_12 R b1 b3 =
  (ob (dUn .not (proj 6 b3)) fun d1 =>
  ogd d1
   (ob (dLen (proj 10 b1)) fun d2 =>
   ob (dBin .gtr d2 (.int .i64 0)) fun d3 =>
   ogd d3
    (some (.bool false))
    (ob (dUn .not (proj 7 b3)) fun d4 =>
    ogd d4
     (ob (dLen (proj 17 b1)) fun d5 =>
     ob (dBin .gtr d5 (.int .i64 0)) fun d6 =>
     ogd d6
      (some (.bool false))
      (ob (dUn .not (proj 8 b3)) fun d7 =>
      ogd d7
       (ob (dLen (proj 18 b1)) fun d8 =>
       ob (dBin .gtr d8 (.int .i64 0)) fun d9 =>
       oif d9
        (some (.bool false))
        (ob (R.p F_term_lists [(.agg [(proj 0 b1), (proj 1 b1), (proj 2 b1), (proj 3 b1), (proj 4 b1), (proj 5 b1), (proj 6 b1), (proj 7 b1), (proj 8 b1), (proj 9 b1), (proj 10 b1), (proj 11 b1), (proj 12 b1), (proj 13 b1), (proj 14 b1), (proj 15 b1), (proj 16 b1), (proj 17 b1), (proj 18 b1), (proj 19 b1)])]) fun d10 =>
        some d10))
       (ob (R.p F_term_lists [(.agg [(proj 0 b1), (proj 1 b1), (proj 2 b1), (proj 3 b1), (proj 4 b1), (proj 5 b1), (proj 6 b1), (proj 7 b1), (proj 8 b1), (proj 9 b1), (proj 10 b1), (proj 11 b1), (proj 12 b1), (proj 13 b1), (proj 14 b1), (proj 15 b1), (proj 16 b1), (proj 17 b1), (proj 18 b1), (proj 19 b1)])]) fun d11 =>
       some d11)
       none)
      none)
     (ob (dUn .not (proj 8 b3)) fun d12 =>
     ogd d12
      (ob (dLen (proj 18 b1)) fun d13 =>
      ob (dBin .gtr d13 (.int .i64 0)) fun d14 =>
      oif d14
       (some (.bool false))
       (ob (R.p F_term_lists [(.agg [(proj 0 b1), (proj 1 b1), (proj 2 b1), (proj 3 b1), (proj 4 b1), (proj 5 b1), (proj 6 b1), (proj 7 b1), (proj 8 b1), (proj 9 b1), (proj 10 b1), (proj 11 b1), (proj 12 b1), (proj 13 b1), (proj 14 b1), (proj 15 b1), (proj 16 b1), (proj 17 b1), (proj 18 b1), (proj 19 b1)])]) fun d15 =>
       some d15))
      (ob (R.p F_term_lists [(.agg [(proj 0 b1), (proj 1 b1), (proj 2 b1), (proj 3 b1), (proj 4 b1), (proj 5 b1), (proj 6 b1), (proj 7 b1), (proj 8 b1), (proj 9 b1), (proj 10 b1), (proj 11 b1), (proj 12 b1), (proj 13 b1), (proj 14 b1), (proj 15 b1), (proj 16 b1), (proj 17 b1), (proj 18 b1), (proj 19 b1)])]) fun d16 =>
      some d16)
      none)
     none)
    none)
   (ob (dUn .not (proj 7 b3)) fun d17 =>
   ogd d17
    (ob (dLen (proj 17 b1)) fun d18 =>
    ob (dBin .gtr d18 (.int .i64 0)) fun d19 =>
    ogd d19
     (some (.bool false))
     (ob (dUn .not (proj 8 b3)) fun d20 =>
     ogd d20
      (ob (dLen (proj 18 b1)) fun d21 =>
      ob (dBin .gtr d21 (.int .i64 0)) fun d22 =>
      oif d22
       (some (.bool false))
       (ob (R.p F_term_lists [(.agg [(proj 0 b1), (proj 1 b1), (proj 2 b1), (proj 3 b1), (proj 4 b1), (proj 5 b1), (proj 6 b1), (proj 7 b1), (proj 8 b1), (proj 9 b1), (proj 10 b1), (proj 11 b1), (proj 12 b1), (proj 13 b1), (proj 14 b1), (proj 15 b1), (proj 16 b1), (proj 17 b1), (proj 18 b1), (proj 19 b1)])]) fun d23 =>
       some d23))
      (ob (R.p F_term_lists [(.agg [(proj 0 b1), (proj 1 b1), (proj 2 b1), (proj 3 b1), (proj 4 b1), (proj 5 b1), (proj 6 b1), (proj 7 b1), (proj 8 b1), (proj 9 b1), (proj 10 b1), (proj 11 b1), (proj 12 b1), (proj 13 b1), (proj 14 b1), (proj 15 b1), (proj 16 b1), (proj 17 b1), (proj 18 b1), (proj 19 b1)])]) fun d24 =>
      some d24)
      none)
     none)
    (ob (dUn .not (proj 8 b3)) fun d25 =>
    ogd d25
     (ob (dLen (proj 18 b1)) fun d26 =>
     ob (dBin .gtr d26 (.int .i64 0)) fun d27 =>
     oif d27
      (some (.bool false))
      (ob (R.p F_term_lists [(.agg [(proj 0 b1), (proj 1 b1), (proj 2 b1), (proj 3 b1), (proj 4 b1), (proj 5 b1), (proj 6 b1), (proj 7 b1), (proj 8 b1), (proj 9 b1), (proj 10 b1), (proj 11 b1), (proj 12 b1), (proj 13 b1), (proj 14 b1), (proj 15 b1), (proj 16 b1), (proj 17 b1), (proj 18 b1), (proj 19 b1)])]) fun d28 =>
      some d28))
     (ob (R.p F_term_lists [(.agg [(proj 0 b1), (proj 1 b1), (proj 2 b1), (proj 3 b1), (proj 4 b1), (proj 5 b1), (proj 6 b1), (proj 7 b1), (proj 8 b1), (proj 9 b1), (proj 10 b1), (proj 11 b1), (proj 12 b1), (proj 13 b1), (proj 14 b1), (proj 15 b1), (proj 16 b1), (proj 17 b1), (proj 18 b1), (proj 19 b1)])]) fun d29 =>
     some d29)
     none)
    none)
   none) := evP_of [4, 6, 8, 10, 12] (by kernel_rfl)
theorem fix_term_one (x0 : DV) : (run cfg).p F_term_one [x0] = P_term_one (run cfg) x0 :=
  (fix_pure (C := cfg) (f := F_term_one) (fn := Try.f29) (c := code_term_one) (by kernel_rfl) Try.func29 (by kernel_rfl)).trans (by kernel_rfl)
theorem call_term_one (x0 : DV) {d : DV} (h : P_term_one (run cfg) x0 = some d) : (run cfg).p F_term_one [x0] = some d := (fix_term_one x0).trans h

noncomputable def code_word_Key : Code := Try.f30.body.getD .skip
noncomputable def P_word_Key (R : Orc) (x0 : DV) : Option DV := evP cfg R fl_word_Key (retP cfg.P Try.f30) [] code_word_Key (initSt Try.f30 [(x0, .val)] [])
theorem eq_word_Key (R : Orc) (x0 : DV) : P_word_Key R x0 =
  (ob (dBin .eql x0 (.str ⟨#[108, 101, 116]⟩)) fun d1 =>
  oif d1
   (some (.bool true))
   (ob (dBin .eql x0 (.str ⟨#[114, 101, 99]⟩)) fun d2 =>
   oif d2
    (some (.bool true))
    (ob (dBin .eql x0 (.str ⟨#[105, 110]⟩)) fun d3 =>
    oif d3
     (some (.bool true))
     (ob (dBin .eql x0 (.str ⟨#[102, 117, 110]⟩)) fun d4 =>
     oif d4
      (some (.bool true))
      (ob (dBin .eql x0 (.str ⟨#[105, 102]⟩)) fun d5 =>
      oif d5
       (some (.bool true))
       (ob (dBin .eql x0 (.str ⟨#[116, 104, 101, 110]⟩)) fun d6 =>
       oif d6
        (some (.bool true))
        (ob (dBin .eql x0 (.str ⟨#[101, 108, 115, 101]⟩)) fun d7 =>
        oif d7
         (some (.bool true))
         (ob (dBin .eql x0 (.str ⟨#[109, 97, 116, 99, 104]⟩)) fun d8 =>
         oif d8
          (some (.bool true))
          (ob (dBin .eql x0 (.str ⟨#[119, 105, 116, 104]⟩)) fun d9 =>
          oif d9
           (some (.bool true))
           (ob (dBin .eql x0 (.str ⟨#[101, 110, 100]⟩)) fun d10 =>
           oif d10
            (some (.bool true))
            (ob (dBin .eql x0 (.str ⟨#[116, 114, 117, 101]⟩)) fun d11 =>
            oif d11
             (some (.bool true))
             (ob (dBin .eql x0 (.str ⟨#[102, 97, 108, 115, 101]⟩)) fun d12 =>
             oif d12
              (some (.bool true))
              (ob (dBin .eql x0 (.str ⟨#[105, 110, 116]⟩)) fun d13 =>
              oif d13
               (some (.bool true))
               (ob (dBin .eql x0 (.str ⟨#[98, 111, 111, 108]⟩)) fun d14 =>
               oif d14
                (some (.bool true))
                (ob (dBin .eql x0 (.str ⟨#[115, 116, 114, 105, 110, 103]⟩)) fun d15 =>
                oif d15
                 (some (.bool true))
                 (ob (dBin .eql x0 (.str ⟨#[117, 110, 105, 116]⟩)) fun d16 =>
                 oif d16
                  (some (.bool true))
                  (ob (dBin .eql x0 (.str ⟨#[108, 105, 115, 116]⟩)) fun d17 =>
                  oif d17
                   (some (.bool true))
                   (some (.bool false))))))))))))))))))) := evP_of [] (by kernel_rfl)
theorem fix_word_Key (x0 : DV) : (run cfg).p F_word_Key [x0] = P_word_Key (run cfg) x0 :=
  (fix_pure (C := cfg) (f := F_word_Key) (fn := Try.f30) (c := code_word_Key) (by kernel_rfl) Try.func30 (by kernel_rfl)).trans (by kernel_rfl)
theorem call_word_Key (x0 : DV) {d : DV} (h : P_word_Key (run cfg) x0 = some d) : (run cfg).p F_word_Key [x0] = some d := (fix_word_Key x0).trans h

noncomputable def code_word_inner : Code := Try.f31.body.getD .skip
noncomputable def P_word_inner (R : Orc) (x0 : DV) : Option DV := evP cfg R fl_word_inner (retP cfg.P Try.f31) [] code_word_inner (initSt Try.f31 [(x0, .val)] [])
set_option maxRecDepth 100000 in
theorem eq_word_inner (R : Orc) (x0 : DV) : P_word_inner R x0 =
  (ob (dBin .geq x0 (.int .u8 97)) fun d1 =>
  ogd d1
   (ob (dBin .leq x0 (.int .u8 122)) fun d2 =>
   ogd d2
    (some (.bool true))
    (ob (dBin .geq x0 (.int .u8 65)) fun d3 =>
    ogd d3
     (ob (dBin .leq x0 (.int .u8 90)) fun d4 =>
     ogd d4
      (some (.bool true))
      (ob (dBin .geq x0 (.int .u8 48)) fun d5 =>
      ogd d5
       (ob (dBin .leq x0 (.int .u8 57)) fun d6 =>
       ogd d6
        (some (.bool true))
        (ob (dBin .eql x0 (.int .u8 95)) fun d7 =>
        ogd d7
         (some (.bool true))
         (ob (dBin .eql x0 (.int .u8 39)) fun d8 =>
         some d8)
         none)
        none)
       (ob (dBin .eql x0 (.int .u8 95)) fun d9 =>
       ogd d9
        (some (.bool true))
        (ob (dBin .eql x0 (.int .u8 39)) fun d10 =>
        some d10)
        none)
       none)
      none)
     (ob (dBin .geq x0 (.int .u8 48)) fun d11 =>
     ogd d11
      (ob (dBin .leq x0 (.int .u8 57)) fun d12 =>
      ogd d12
       (some (.bool true))
       (ob (dBin .eql x0 (.int .u8 95)) fun d13 =>
       ogd d13
        (some (.bool true))
        (ob (dBin .eql x0 (.int .u8 39)) fun d14 =>
        some d14)
        none)
       none)
      (ob (dBin .eql x0 (.int .u8 95)) fun d15 =>
      ogd d15
       (some (.bool true))
       (ob (dBin .eql x0 (.int .u8 39)) fun d16 =>
       some d16)
       none)
      none)
     none)
    none)
   (ob (dBin .geq x0 (.int .u8 65)) fun d17 =>
   ogd d17
    (ob (dBin .leq x0 (.int .u8 90)) fun d18 =>
    ogd d18
     (some (.bool true))
     (ob (dBin .geq x0 (.int .u8 48)) fun d19 =>
     ogd d19
      (ob (dBin .leq x0 (.int .u8 57)) fun d20 =>
      ogd d20
       (some (.bool true))
       (ob (dBin .eql x0 (.int .u8 95)) fun d21 =>
       ogd d21
        (some (.bool true))
        (ob (dBin .eql x0 (.int .u8 39)) fun d22 =>
        some d22)
        none)
       none)
      (ob (dBin .eql x0 (.int .u8 95)) fun d23 =>
      ogd d23
       (some (.bool true))
       (ob (dBin .eql x0 (.int .u8 39)) fun d24 =>
       some d24)
       none)
      none)
     none)
    (ob (dBin .geq x0 (.int .u8 48)) fun d25 =>
    ogd d25
     (ob (dBin .leq x0 (.int .u8 57)) fun d26 =>
     ogd d26
      (some (.bool true))
      (ob (dBin .eql x0 (.int .u8 95)) fun d27 =>
      ogd d27
       (some (.bool true))
       (ob (dBin .eql x0 (.int .u8 39)) fun d28 =>
       some d28)
       none)
      none)
     (ob (dBin .eql x0 (.int .u8 95)) fun d29 =>
     ogd d29
      (some (.bool true))
      (ob (dBin .eql x0 (.int .u8 39)) fun d30 =>
      some d30)
      none)
     none)
    none)
   none) := evP_of [] (by kernel_rfl)
theorem fix_word_inner (x0 : DV) : (run cfg).p F_word_inner [x0] = P_word_inner (run cfg) x0 :=
  (fix_pure (C := cfg) (f := F_word_inner) (fn := Try.f31) (c := code_word_inner) (by kernel_rfl) Try.func31 (by kernel_rfl)).trans (by kernel_rfl)
theorem call_word_inner (x0 : DV) {d : DV} (h : P_word_inner (run cfg) x0 = some d) : (run cfg).p F_word_inner [x0] = some d := (fix_word_inner x0).trans h

noncomputable def code_term_putting_in : Code := Try.f32.body.getD .skip
noncomputable def P_term_putting_in (R : Orc) (x0 : Nat) (x1 : DV) (sg : List SObj) : Option (List DV × List SObj) := evP cfg R fl_term_putting_in (retR cfg.P Try.f32 sig_term_putting_in) [] code_term_putting_in (initSt Try.f32 [(.undef, (.ptr x0 0)), (x1, .val)] sg)
noncomputable def P_term_putting_in_10h (R : Orc) (t0i : Nat) (t6 : DV) (t51 : DV) (t52 : DV) (t53 : DV) (b3 : DV) (b4_0 : DV) (b4_1 : DV) (b4_2 : DV) (b4_3 : DV) (b4_4 : DV) (b4_5 : DV) (b4_6 : DV) (b4_7 : DV) (b4_8 : DV) (b4_9 : DV) (b4_10 : DV) (b4_11 : DV) (b4_12 : DV) (b4_13 : DV) (b4_14 : DV) (b4_15 : DV) (b4_16 : DV) (b4_17 : DV) (b4_18 : DV) (b4_19 : DV) (sg : List SObj) : Option (List DV × List SObj) := headP cfg R fl_term_putting_in (retR cfg.P Try.f32 sig_term_putting_in) [true, false, true, false, true, true, false, true, false] code_term_putting_in ⟨spread .undef 115 0 [(6, t6), (51, t51), (52, t52), (53, t53)], spread .val 115 0 [(0, (.ptr t0i 0)), (3, (.loc 3 0)), (4, (.loc 4 0)), (6, .own)], spread none 115 0 [(3, some [((proj 0 b3), .val), ((proj 1 b3), .val), ((proj 2 b3), .val), ((proj 3 b3), .val), ((proj 4 b3), .val), ((proj 5 b3), .val), ((proj 6 b3), .val), ((proj 7 b3), .val), ((proj 8 b3), .val), ((proj 9 b3), .val), ((proj 10 b3), .val), ((proj 11 b3), .val), ((proj 12 b3), .val), ((proj 13 b3), .val), ((proj 14 b3), .val), ((proj 15 b3), .val), ((proj 16 b3), .val), ((proj 17 b3), .val), ((proj 18 b3), .val), ((proj 19 b3), .val)]), (4, some [(b4_0, .val), (b4_1, .val), (b4_2, .val), (b4_3, .val), (b4_4, .val), (b4_5, .val), (b4_6, .val), (b4_7, .val), (b4_8, .val), (b4_9, .val), (b4_10, .val), (b4_11, .val), (b4_12, .val), (b4_13, .val), (b4_14, .val), (b4_15, .val), (b4_16, .val), (b4_17, .val), (b4_18, .val), (b4_19, .val)])], sg⟩
noncomputable def P_term_putting_in_19h (R : Orc) (t0i : Nat) (t9r0 : Nat) (t9r3 : Nat) (t83r0 : Nat) (t83r3 : Nat) (t84 : DV) (t85 : DV) (b3 : DV) (b4_0 : DV) (b4_1 : DV) (b4_2 : DV) (b4_3 : DV) (b4_4 : DV) (b4_5 : DV) (b4_6 : DV) (b4_7 : DV) (b4_8 : DV) (b4_9 : DV) (b4_10 : DV) (b4_11 : DV) (b4_12 : DV) (b4_13 : DV) (b4_14 : DV) (b4_15 : DV) (b4_16 : DV) (b4_17 : DV) (b4_18 : DV) (b4_19 : DV) (sg : List SObj) : Option (List DV × List SObj) := headP cfg R fl_term_putting_in (retR cfg.P Try.f32 sig_term_putting_in) [true, true, true, true, false, true, false] code_term_putting_in ⟨spread .undef 115 0 [(84, t84), (85, t85)], spread .val 115 0 [(0, (.ptr t0i 0)), (3, (.loc 3 0)), (4, (.loc 4 0)), (9, (.arr t9r0 20 0 t9r3)), (83, (.arr t83r0 20 0 t83r3))], spread none 115 0 [(3, some [((proj 0 b3), .val), ((proj 1 b3), .val), ((proj 2 b3), .val), ((proj 3 b3), .val), ((proj 4 b3), .val), ((proj 5 b3), .val), ((proj 6 b3), .val), ((proj 7 b3), .val), ((proj 8 b3), .val), ((proj 9 b3), .val), ((proj 10 b3), .val), ((proj 11 b3), .val), ((proj 12 b3), .val), ((proj 13 b3), .val), ((proj 14 b3), .val), ((proj 15 b3), .val), ((proj 16 b3), .val), ((proj 17 b3), .val), ((proj 18 b3), .val), ((proj 19 b3), .val)]), (4, some [(b4_0, .val), (b4_1, .val), (b4_2, .val), (b4_3, .val), (b4_4, .val), (b4_5, .val), (b4_6, .val), (b4_7, .val), (b4_8, .val), (b4_9, .val), (b4_10, .val), (b4_11, .val), (b4_12, .val), (b4_13, .val), (b4_14, .val), (b4_15, .val), (b4_16, .val), (b4_17, .val), (b4_18, .val), (b4_19, .val)])], sg⟩
set_option maxRecDepth 100000 in
theorem eq_term_putting_in (R : Orc) (x0 : Nat) (x1 : DV) (sg : List SObj) : P_term_putting_in R x0 x1 sg =
  (og (isAggN 20 x1) <|
  ob (dBin .eql (proj 0 x1) (.int .i64 1)) fun d1 =>
  oif d1
   (ob (sgBox sg x0) fun c2 =>
   ob (cellDat c2 0) fun d3 =>
   ob (dBin .neq (proj 3 x1) d3) fun d4 =>
   oif d4
    (some ([(.agg [(proj 0 x1), (proj 1 x1), (proj 2 x1), (proj 3 x1), (proj 4 x1), (proj 5 x1), (proj 6 x1), (proj 7 x1), (proj 8 x1), (proj 9 x1), (proj 10 x1), (proj 11 x1), (proj 12 x1), (proj 13 x1), (proj 14 x1), (proj 15 x1), (proj 16 x1), (proj 17 x1), (proj 18 x1), (proj 19 x1)]), (.bool true)], sg))
    (ob (dLen (proj 17 x1)) fun d5 =>
    ob (sgBox sg x0) fun c6 =>
    ob (cellDat c6 1) fun d7 =>
    ob (dLen d7) fun d8 =>
    ob (dBin .neq d5 d8) fun d9 =>
    oif d9
     (some ([(.agg [(proj 0 x1), (proj 1 x1), (proj 2 x1), (proj 3 x1), (proj 4 x1), (proj 5 x1), (proj 6 x1), (proj 7 x1), (proj 8 x1), (proj 9 x1), (proj 10 x1), (proj 11 x1), (proj 12 x1), (proj 13 x1), (proj 14 x1), (proj 15 x1), (proj 16 x1), (proj 17 x1), (proj 18 x1), (proj 19 x1)]), (.bool false)], sg))
     (ob (sgBox sg x0) fun c10 =>
     ob (cellDat c10 1) fun d11 =>
     ob (dLen d11) fun d12 =>
     ob (dBin .eql d12 (.int .i64 0)) fun d13 =>
     oif d13
      (ob (sgBox sg x0) fun c14 =>
      ob (segDat 2 20 c14) fun e15 =>
      og (isAggN 20 (.agg e15)) <|
      some ([(.agg [(proj 0 (.agg e15)), (proj 1 (.agg e15)), (proj 2 (.agg e15)), (proj 3 (.agg e15)), (proj 4 (.agg e15)), (proj 5 (.agg e15)), (proj 6 (.agg e15)), (proj 7 (.agg e15)), (proj 8 (.agg e15)), (proj 9 (.agg e15)), (proj 10 (.agg e15)), (proj 11 (.agg e15)), (proj 12 (.agg e15)), (proj 13 (.agg e15)), (proj 14 (.agg e15)), (proj 15 (.agg e15)), (proj 16 (.agg e15)), (proj 17 (.agg e15)), (proj 18 (.agg e15)), (proj 19 (.agg e15))]), (.bool true)], sg))
      (ob (sgBox sg x0) fun c16 =>
      ob (cellDat c16 1) fun d17 =>
      ob (dLen d17) fun d18 =>
      P_term_putting_in_10h R x0 (.list 4 []) d17 d18 (.int .i64 0) x1 (.int .i64 0) (.int .i64 0) (.int .i64 0) (.str ⟨#[]⟩) (.str ⟨#[]⟩) (.int .i64 0) (.str ⟨#[]⟩) (.int .i64 0) (.int .i64 0) (.bool false) (.list 1 []) (.int .i64 0) (.int .i64 0) (.list 3 []) (.int .i64 0) (.int .i64 0) (.list 3 []) (.list 3 []) (.list 7 []) (.list 20 []) sg))))
   (ob (dLen (proj 19 x1)) fun d19 =>
   ob (dBin .eql d19 (.int .i64 0)) fun d20 =>
   oif d20
    (some ([(.agg [(proj 0 x1), (proj 1 x1), (proj 2 x1), (proj 3 x1), (proj 4 x1), (proj 5 x1), (proj 6 x1), (proj 7 x1), (proj 8 x1), (proj 9 x1), (proj 10 x1), (proj 11 x1), (proj 12 x1), (proj 13 x1), (proj 14 x1), (proj 15 x1), (proj 16 x1), (proj 17 x1), (proj 18 x1), (proj 19 x1)]), (.bool true)], sg))
    (ob (dList (proj 19 x1)) fun p21 =>
    og (true && p21.1 == 20 && decide (p21.2.length ≤ lim)) <|
    P_term_putting_in_19h R x0 (sg.length) (p21.2.length) (sg.length) (p21.2.length) (.int .i64 p21.2.length) (.int .i64 0) x1 (.int .i64 0) (.int .i64 0) (.int .i64 0) (.str ⟨#[]⟩) (.str ⟨#[]⟩) (.int .i64 0) (.str ⟨#[]⟩) (.int .i64 0) (.int .i64 0) (.bool false) (.list 1 []) (.int .i64 0) (.int .i64 0) (.list 3 []) (.int .i64 0) (.int .i64 0) (.list 3 []) (.list 3 []) (.list 7 []) (.list 20 []) (sg ++ [.arr 20 p21.2])))) := evP_of [] (by kernel_rfl)
theorem eq_term_putting_in_10h (R : Orc) (t0i : Nat) (t6 : DV) (t51 : DV) (t52 : DV) (t53 : DV) (b3 : DV) (b4_0 : DV) (b4_1 : DV) (b4_2 : DV) (b4_3 : DV) (b4_4 : DV) (b4_5 : DV) (b4_6 : DV) (b4_7 : DV) (b4_8 : DV) (b4_9 : DV) (b4_10 : DV) (b4_11 : DV) (b4_12 : DV) (b4_13 : DV) (b4_14 : DV) (b4_15 : DV) (b4_16 : DV) (b4_17 : DV) (b4_18 : DV) (b4_19 : DV) (sg : List SObj) : P_term_putting_in_10h R t0i t6 t51 t52 t53 b3 b4_0 b4_1 b4_2 b4_3 b4_4 b4_5 b4_6 b4_7 b4_8 b4_9 b4_10 b4_11 b4_12 b4_13 b4_14 b4_15 b4_16 b4_17 b4_18 b4_19 sg =
  (ob (dBin .lss t53 t52) fun d1 =>
  oif d1
   (ob (dIdx 1 t51 t53) fun d2 =>
   og (isLeaf d2) <|
   ob (dIdx 3 (proj 17 b3) t53) fun d3 =>
   og (isCell d2) <|
   ob (dApp 4 t6 (.list 4 [(.agg [d2, (proj 0 d3), (proj 1 d3), (proj 2 d3)])])) fun d4 =>
   ob (dBin .add t53 (.int .i64 1)) fun d5 =>
   P_term_putting_in_10h R t0i d4 t51 t52 d5 b3 b4_0 b4_1 b4_2 b4_3 b4_4 b4_5 b4_6 b4_7 b4_8 b4_9 b4_10 b4_11 b4_12 b4_13 b4_14 b4_15 b4_16 b4_17 b4_18 b4_19 sg)
   (ob (sgBox sg t0i) fun c6 =>
   ob (segDat 2 20 c6) fun e7 =>
   ob (R.p F_term_types [(.agg e7), t6]) fun d8 =>
   og (isAggN 20 d8) <|
   some ([(.agg [(proj 0 d8), (proj 1 d8), (proj 2 d8), (proj 3 d8), (proj 4 d8), (proj 5 d8), (proj 6 d8), (proj 7 d8), (proj 8 d8), (proj 9 d8), (proj 10 d8), (proj 11 d8), (proj 12 d8), (proj 13 d8), (proj 14 d8), (proj 15 d8), (proj 16 d8), (proj 17 d8), (proj 18 d8), (proj 19 d8)]), (.bool true)], sg))) := headP_of [] (by kernel_rfl)
theorem eq_term_putting_in_19h (R : Orc) (t0i : Nat) (t9r0 : Nat) (t9r3 : Nat) (t83r0 : Nat) (t83r3 : Nat) (t84 : DV) (t85 : DV) (b3 : DV) (b4_0 : DV) (b4_1 : DV) (b4_2 : DV) (b4_3 : DV) (b4_4 : DV) (b4_5 : DV) (b4_6 : DV) (b4_7 : DV) (b4_8 : DV) (b4_9 : DV) (b4_10 : DV) (b4_11 : DV) (b4_12 : DV) (b4_13 : DV) (b4_14 : DV) (b4_15 : DV) (b4_16 : DV) (b4_17 : DV) (b4_18 : DV) (b4_19 : DV) (sg : List SObj) : P_term_putting_in_19h R t0i t9r0 t9r3 t83r0 t83r3 t84 t85 b3 b4_0 b4_1 b4_2 b4_3 b4_4 b4_5 b4_6 b4_7 b4_8 b4_9 b4_10 b4_11 b4_12 b4_13 b4_14 b4_15 b4_16 b4_17 b4_18 b4_19 sg =
  (ob (dBin .lss t85 t84) fun d1 =>
  oif d1
   (ob (arrIdx 0 t83r3 t85) fun n2 =>
   ob (sgArr sg t83r0) fun r3 =>
   ob (r3.2[n2]?) fun d4 =>
   og (r3.1 == 20) <|
   ob (R.p F_term_binds [(.agg [(proj 0 b3), (proj 1 b3), (proj 2 b3), (proj 3 b3), (proj 4 b3), (proj 5 b3), (proj 6 b3), (proj 7 b3), (proj 8 b3), (proj 9 b3), (proj 10 b3), (proj 11 b3), (proj 12 b3), (proj 13 b3), (proj 14 b3), (proj 15 b3), (proj 16 b3), (proj 17 b3), (proj 18 b3), (proj 19 b3)]), t85]) fun d5 =>
   ob (sgBox sg t0i) fun c6 =>
   ob (cellDat c6 0) fun d7 =>
   ob (R.p F_slices_Contains__string_string [d5, d7]) fun d8 =>
   oif d8
    (ob (dBin .add t85 (.int .i64 1)) fun d9 =>
    P_term_putting_in_19h R t0i t9r0 t9r3 t83r0 t83r3 t84 d9 b3 b4_0 b4_1 b4_2 b4_3 b4_4 b4_5 b4_6 b4_7 b4_8 b4_9 b4_10 b4_11 b4_12 b4_13 b4_14 b4_15 b4_16 b4_17 b4_18 b4_19 sg)
    (ob (R.r F_term_putting_in [(.undef, (.ptr t0i 0)), ((.agg [(proj 0 d4), (proj 1 d4), (proj 2 d4), (proj 3 d4), (proj 4 d4), (proj 5 d4), (proj 6 d4), (proj 7 d4), (proj 8 d4), (proj 9 d4), (proj 10 d4), (proj 11 d4), (proj 12 d4), (proj 13 d4), (proj 14 d4), (proj 15 d4), (proj 16 d4), (proj 17 d4), (proj 18 d4), (proj 19 d4)]), .val)] sg) fun q10 =>
    ob (dExt 0 (.tup q10.1)) fun d11 =>
    ob (dExt 1 (.tup q10.1)) fun d12 =>
    og (isAggN 20 d11) <|
    ob (dUn .not d12) fun d13 =>
    oif d13
     (some ([(.agg [(proj 0 b3), (proj 1 b3), (proj 2 b3), (proj 3 b3), (proj 4 b3), (proj 5 b3), (proj 6 b3), (proj 7 b3), (proj 8 b3), (proj 9 b3), (proj 10 b3), (proj 11 b3), (proj 12 b3), (proj 13 b3), (proj 14 b3), (proj 15 b3), (proj 16 b3), (proj 17 b3), (proj 18 b3), (proj 19 b3)]), (.bool false)], q10.2))
     (ob (arrIdx 0 t9r3 t85) fun n14 =>
     ob (sgArr q10.2 t9r0) fun r15 =>
     ob (r15.2[n14]?) fun u16 =>
     og (r15.1 == 20) <|
     ob (dBin .add t85 (.int .i64 1)) fun d17 =>
     P_term_putting_in_19h R t0i t9r0 t9r3 t83r0 t83r3 t84 d17 b3 b4_0 b4_1 b4_2 b4_3 b4_4 b4_5 b4_6 b4_7 b4_8 b4_9 b4_10 b4_11 b4_12 b4_13 b4_14 b4_15 b4_16 b4_17 b4_18 b4_19 (q10.2.set t9r0 (.arr 20 (r15.2.set n14 (.agg [(proj 0 d11), (proj 1 d11), (proj 2 d11), (proj 3 d11), (proj 4 d11), (proj 5 d11), (proj 6 d11), (proj 7 d11), (proj 8 d11), (proj 9 d11), (proj 10 d11), (proj 11 d11), (proj 12 d11), (proj 13 d11), (proj 14 d11), (proj 15 d11), (proj 16 d11), (proj 17 d11), (proj 18 d11), (proj 19 d11)])))))))
   (ob (seqO [ob (sealCells sg [((proj 0 b3), .val), ((proj 1 b3), .val), ((proj 2 b3), .val), ((proj 3 b3), .val), ((proj 4 b3), .val), ((proj 5 b3), .val), ((proj 6 b3), .val), ((proj 7 b3), .val), ((proj 8 b3), .val), ((proj 9 b3), .val), ((proj 10 b3), .val), ((proj 11 b3), .val), ((proj 12 b3), .val), ((proj 13 b3), .val), ((proj 14 b3), .val), ((proj 15 b3), .val), ((proj 16 b3), .val), ((proj 17 b3), .val), ((proj 18 b3), .val), (.undef, (.arr t9r0 20 0 t9r3))]) fun ds => some (.agg ds), some (.bool true)]) fun ds => some (ds, (sg.set t9r0 (SObj.arr 1 []))))) := headP_of [] (by kernel_rfl)
theorem fix_term_putting_in (x0 : Nat) (x1 : DV) (sg : List SObj) : (run cfg).r F_term_putting_in [(.undef, (.ptr x0 0)), (x1, .val)] sg = P_term_putting_in (run cfg) x0 x1 sg :=
  (fix_raw (C := cfg) (f := F_term_putting_in) (s := sig_term_putting_in) (fn := Try.f32) (c := code_term_putting_in) (by kernel_rfl) Try.func32 (by kernel_rfl)).trans (by kernel_rfl)
theorem call_term_putting_in (x0 : Nat) (x1 : DV) (sg : List SObj) {q : List DV × List SObj} (h : P_term_putting_in (run cfg) x0 x1 sg = some q) : (run cfg).r F_term_putting_in [(.undef, (.ptr x0 0)), (x1, .val)] sg = some q := (fix_term_putting_in x0 x1 sg).trans h

end Go.Su

/-
  Equations of the program's functions: by program.
-/
namespace Go.Su
open Go.Proofs
set_option linter.unusedVariables false

noncomputable def code_term_binds : Code := Try.f33.body.getD .skip
noncomputable def P_term_binds (R : Orc) (x0 : DV) (x1 : DV) : Option DV := evP cfg R fl_term_binds (retP cfg.P Try.f33) [] code_term_binds (initSt Try.f33 [(x0, .val), (x1, .val)] [])
noncomputable def P_term_binds_5 (R : Orc) (t1 : DV) (b2 : DV) : Option DV := evP cfg R fl_term_binds (retP cfg.P Try.f33) [true, false, false, true, true] code_term_binds ⟨spread .undef 50 0 [(1, t1)], spread .val 50 0 [(2, (.loc 2 0))], spread none 50 0 [(2, some [((proj 0 b2), .val), ((proj 1 b2), .val), ((proj 2 b2), .val), ((proj 3 b2), .val), ((proj 4 b2), .val), ((proj 5 b2), .val), ((proj 6 b2), .val), ((proj 7 b2), .val), ((proj 8 b2), .val), ((proj 9 b2), .val), ((proj 10 b2), .val), ((proj 11 b2), .val), ((proj 12 b2), .val), ((proj 13 b2), .val), ((proj 14 b2), .val), ((proj 15 b2), .val), ((proj 16 b2), .val), ((proj 17 b2), .val), ((proj 18 b2), .val), ((proj 19 b2), .val)])], []⟩
set_option maxRecDepth 100000 in
theorem eq_term_binds (R : Orc) (x0 : DV) (x1 : DV) : P_term_binds R x0 x1 =
  (og (isAggN 20 x0) <|
  ob (dBin .eql (proj 0 x0) (.int .i64 9)) fun d1 =>
  oif d1
   (og (isCell (proj 3 x0)) <|
   some (.list 1 [(proj 3 x0)]))
   (ob (dBin .eql (proj 0 x0) (.int .i64 11)) fun d2 =>
   ogd d2
    (ob (dBin .eql x1 (.int .i64 1)) fun d3 =>
    oif d3
     (og (isCell (proj 3 x0)) <|
     some (.list 1 [(proj 3 x0)]))
     (ob (dBin .eql (proj 0 x0) (.int .i64 12)) fun d4 =>
     ogd d4
      (ob (dBin .eql x1 (.int .i64 1)) fun d5 =>
      oif d5
       (og (isCell (proj 3 x0)) <|
       some (.list 1 [(proj 3 x0)]))
       (P_term_binds_5 R x1 x0))
      (P_term_binds_5 R x1 x0)
      none))
    (ob (dBin .eql (proj 0 x0) (.int .i64 12)) fun d6 =>
    ogd d6
     (ob (dBin .eql x1 (.int .i64 1)) fun d7 =>
     oif d7
      (og (isCell (proj 3 x0)) <|
      some (.list 1 [(proj 3 x0)]))
      (P_term_binds_5 R x1 x0))
     (P_term_binds_5 R x1 x0)
     none)
    none)) := evP_of [5] (by kernel_rfl)
theorem eq_term_binds_5 (R : Orc) (t1 : DV) (b2 : DV) : P_term_binds_5 R t1 b2 =
  (ob (dBin .eql (proj 0 b2) (.int .i64 12)) fun d1 =>
  oif d1
   (og (isCell (proj 3 b2)) <|
   og (isCell (proj 4 b2)) <|
   some (.list 1 [(proj 3 b2), (proj 4 b2)]))
   (ob (dBin .eql (proj 0 b2) (.int .i64 14)) fun d2 =>
   ogd d2
    (ob (dBin .gtr t1 (.int .i64 0)) fun d3 =>
    oif d3
     (ob (dBin .sub t1 (.int .i64 1)) fun d4 =>
     ob (dIdx 7 (proj 18 b2) d4) fun d5 =>
     ob (R.r F_term_patNames [((.agg [(proj 0 d5), (proj 1 d5), (proj 2 d5), (proj 3 d5), (proj 4 d5), (proj 5 d5), (proj 6 d5)]), .val), ((.list 1 []), .own)] []) fun q6 =>
     some (q6.1.getD 0 .undef))
     (some (.list 1 [])))
    (some (.list 1 []))
    none)) := evP_of [5] (by kernel_rfl)
theorem fix_term_binds (x0 : DV) (x1 : DV) : (run cfg).p F_term_binds [x0, x1] = P_term_binds (run cfg) x0 x1 :=
  (fix_pure (C := cfg) (f := F_term_binds) (fn := Try.f33) (c := code_term_binds) (by kernel_rfl) Try.func33 (by kernel_rfl)).trans (by kernel_rfl)
theorem call_term_binds (x0 : DV) (x1 : DV) {d : DV} (h : P_term_binds (run cfg) x0 x1 = some d) : (run cfg).p F_term_binds [x0, x1] = some d := (fix_term_binds x0 x1).trans h

noncomputable def code_slices_Equal__int_int : Code := Try.f36.body.getD .skip
noncomputable def P_slices_Equal__int_int (R : Orc) (x0 : DV) (x1 : DV) : Option DV := evP cfg R fl_slices_Equal__int_int (retP cfg.P Try.f36) [] code_slices_Equal__int_int (initSt Try.f36 [(x0, .val), (x1, .val)] [])
noncomputable def P_slices_Equal__int_int_4h (R : Orc) (t0 : DV) (t1 : DV) (t12 : DV) (t13 : DV) : Option DV := headP cfg R fl_slices_Equal__int_int (retP cfg.P Try.f36) [true, true, false, true, false] code_slices_Equal__int_int ⟨spread .undef 26 0 [(0, t0), (1, t1), (12, t12), (13, t13)], spread .val 26 0 [], spread none 26 0 [], []⟩
theorem eq_slices_Equal__int_int (R : Orc) (x0 : DV) (x1 : DV) : P_slices_Equal__int_int R x0 x1 =
  (ob (dLen x0) fun d1 =>
  ob (dLen x1) fun d2 =>
  ob (dBin .neq d1 d2) fun d3 =>
  oif d3
   (some (.bool false))
   (ob (dLen x0) fun d4 =>
   P_slices_Equal__int_int_4h R x0 x1 d4 (.int .i64 0))) := evP_of [] (by kernel_rfl)
theorem eq_slices_Equal__int_int_4h (R : Orc) (t0 : DV) (t1 : DV) (t12 : DV) (t13 : DV) : P_slices_Equal__int_int_4h R t0 t1 t12 t13 =
  (ob (dBin .lss t13 t12) fun d1 =>
  oif d1
   (ob (dIdx 1 t0 t13) fun d2 =>
   og (isLeaf d2) <|
   ob (dIdx 1 t1 t13) fun d3 =>
   og (isLeaf d3) <|
   ob (dBin .neq d2 d3) fun d4 =>
   oif d4
    (some (.bool false))
    (ob (dBin .add t13 (.int .i64 1)) fun d5 =>
    P_slices_Equal__int_int_4h R t0 t1 t12 d5))
   (some (.bool true))) := headP_of [] (by kernel_rfl)
theorem fix_slices_Equal__int_int (x0 : DV) (x1 : DV) : (run cfg).p F_slices_Equal__int_int [x0, x1] = P_slices_Equal__int_int (run cfg) x0 x1 :=
  (fix_pure (C := cfg) (f := F_slices_Equal__int_int) (fn := Try.f36) (c := code_slices_Equal__int_int) (by kernel_rfl) Try.func36 (by kernel_rfl)).trans (by kernel_rfl)
theorem call_slices_Equal__int_int (x0 : DV) (x1 : DV) {d : DV} (h : P_slices_Equal__int_int (run cfg) x0 x1 = some d) : (run cfg).p F_slices_Equal__int_int [x0, x1] = some d := (fix_slices_Equal__int_int x0 x1).trans h

noncomputable def code_typ_Same : Code := Try.f37.body.getD .skip
noncomputable def P_typ_Same (R : Orc) (x0 : DV) (x1 : DV) : Option DV := evP cfg R fl_typ_Same (retP cfg.P Try.f37) [] code_typ_Same (initSt Try.f37 [(x0, .val), (x1, .val)] [])
noncomputable def P_typ_Same_4h (R : Orc) (t29 : DV) (t30 : DV) (t31 : DV) (b3 : DV) : Option DV := headP cfg R fl_typ_Same (retP cfg.P Try.f37) [true, true, false, true, false] code_typ_Same ⟨spread .undef 45 0 [(29, t29), (30, t30), (31, t31)], spread .val 45 0 [(3, (.loc 3 0))], spread none 45 0 [(3, some [((proj 0 b3), .val), ((proj 1 b3), .val), ((proj 2 b3), .val)])], []⟩
set_option maxRecDepth 100000 in
theorem eq_typ_Same (R : Orc) (x0 : DV) (x1 : DV) : P_typ_Same R x0 x1 =
  (og (isAggN 3 x0) <|
  og (isAggN 3 x1) <|
  ob (dBin .neq (proj 0 x0) (proj 0 x1)) fun d1 =>
  ogd d1
   (some (.bool false))
   (ob (dBin .neq (proj 1 x0) (proj 1 x1)) fun d2 =>
   ogd d2
    (some (.bool false))
    (ob (dLen (proj 2 x0)) fun d3 =>
    ob (dLen (proj 2 x1)) fun d4 =>
    ob (dBin .neq d3 d4) fun d5 =>
    oif d5
     (some (.bool false))
     (ob (dLen (proj 2 x0)) fun d6 =>
     P_typ_Same_4h R (proj 2 x0) d6 (.int .i64 0) x1))
    none)
   none) := evP_of [] (by kernel_rfl)
theorem eq_typ_Same_4h (R : Orc) (t29 : DV) (t30 : DV) (t31 : DV) (b3 : DV) : P_typ_Same_4h R t29 t30 t31 b3 =
  (ob (dBin .lss t31 t30) fun d1 =>
  oif d1
   (ob (dIdx 3 t29 t31) fun d2 =>
   ob (dIdx 3 (proj 2 b3) t31) fun d3 =>
   ob (R.p F_typ_Same [(.agg [(proj 0 d2), (proj 1 d2), (proj 2 d2)]), (.agg [(proj 0 d3), (proj 1 d3), (proj 2 d3)])]) fun d4 =>
   ob (dUn .not d4) fun d5 =>
   oif d5
    (some (.bool false))
    (ob (dBin .add t31 (.int .i64 1)) fun d6 =>
    P_typ_Same_4h R t29 t30 d6 b3))
   (some (.bool true))) := headP_of [] (by kernel_rfl)
theorem fix_typ_Same (x0 : DV) (x1 : DV) : (run cfg).p F_typ_Same [x0, x1] = P_typ_Same (run cfg) x0 x1 :=
  (fix_pure (C := cfg) (f := F_typ_Same) (fn := Try.f37) (c := code_typ_Same) (by kernel_rfl) Try.func37 (by kernel_rfl)).trans (by kernel_rfl)
theorem call_typ_Same (x0 : DV) (x1 : DV) {d : DV} (h : P_typ_Same (run cfg) x0 x1 = some d) : (run cfg).p F_typ_Same [x0, x1] = some d := (fix_typ_Same x0 x1).trans h

noncomputable def code_slices_EqualFunc__api_Type__api_Type_api_Type_api_Type : Code := Try.f38.body.getD .skip
noncomputable def P_slices_EqualFunc__api_Type__api_Type_api_Type_api_Type (R : Orc) (x0 : DV) (x1 : DV) (sg : List SObj) : Option (List DV × List SObj) := evP cfg R fl_slices_EqualFunc__api_Type__api_Type_api_Type_api_Type (retR cfg.P Try.f38 sig_slices_EqualFunc__api_Type__api_Type_api_Type_api_Type) [] code_slices_EqualFunc__api_Type__api_Type_api_Type_api_Type (initSt Try.f38 [(x0, .val), (x1, .val), (.undef, (.fn 37 []))] sg)
noncomputable def P_slices_EqualFunc__api_Type__api_Type_api_Type_api_Type_4h (R : Orc) (t1 : DV) (t15 : DV) (t16 : DV) (t17 : DV) (sg : List SObj) : Option (List DV × List SObj) := headP cfg R fl_slices_EqualFunc__api_Type__api_Type_api_Type_api_Type (retR cfg.P Try.f38 sig_slices_EqualFunc__api_Type__api_Type_api_Type_api_Type) [true, true, false, true, false] code_slices_EqualFunc__api_Type__api_Type_api_Type_api_Type ⟨spread .undef 32 0 [(1, t1), (15, t15), (16, t16), (17, t17)], spread .val 32 0 [(2, (.fn 37 []))], spread none 32 0 [], sg⟩
theorem eq_slices_EqualFunc__api_Type__api_Type_api_Type_api_Type (R : Orc) (x0 : DV) (x1 : DV) (sg : List SObj) : P_slices_EqualFunc__api_Type__api_Type_api_Type_api_Type R x0 x1 sg =
  (ob (dLen x0) fun d1 =>
  ob (dLen x1) fun d2 =>
  ob (dBin .neq d1 d2) fun d3 =>
  oif d3
   (some ([(.bool false)], sg))
   (ob (dLen x0) fun d4 =>
   P_slices_EqualFunc__api_Type__api_Type_api_Type_api_Type_4h R x1 x0 d4 (.int .i64 0) sg)) := evP_of [] (by kernel_rfl)
theorem eq_slices_EqualFunc__api_Type__api_Type_api_Type_api_Type_4h (R : Orc) (t1 : DV) (t15 : DV) (t16 : DV) (t17 : DV) (sg : List SObj) : P_slices_EqualFunc__api_Type__api_Type_api_Type_api_Type_4h R t1 t15 t16 t17 sg =
  (ob (dBin .lss t17 t16) fun d1 =>
  oif d1
   (ob (dIdx 3 t15 t17) fun d2 =>
   ob (dIdx 3 t1 t17) fun d3 =>
   ob (R.p F_typ_Same [(.agg [(proj 0 d2), (proj 1 d2), (proj 2 d2)]), (.agg [(proj 0 d3), (proj 1 d3), (proj 2 d3)])]) fun d4 =>
   ob (dUn .not d4) fun d5 =>
   oif d5
    (some ([(.bool false)], sg))
    (ob (dBin .add t17 (.int .i64 1)) fun d6 =>
    P_slices_EqualFunc__api_Type__api_Type_api_Type_api_Type_4h R t1 t15 t16 d6 sg))
   (some ([(.bool true)], sg))) := headP_of [] (by kernel_rfl)
theorem fix_slices_EqualFunc__api_Type__api_Type_api_Type_api_Type (x0 : DV) (x1 : DV) (sg : List SObj) : (run cfg).r F_slices_EqualFunc__api_Type__api_Type_api_Type_api_Type [(x0, .val), (x1, .val), (.undef, (.fn 37 []))] sg = P_slices_EqualFunc__api_Type__api_Type_api_Type_api_Type (run cfg) x0 x1 sg :=
  (fix_raw (C := cfg) (f := F_slices_EqualFunc__api_Type__api_Type_api_Type_api_Type) (s := sig_slices_EqualFunc__api_Type__api_Type_api_Type_api_Type) (fn := Try.f38) (c := code_slices_EqualFunc__api_Type__api_Type_api_Type_api_Type) (by kernel_rfl) Try.func38 (by kernel_rfl)).trans (by kernel_rfl)
theorem call_slices_EqualFunc__api_Type__api_Type_api_Type_api_Type (x0 : DV) (x1 : DV) (sg : List SObj) {q : List DV × List SObj} (h : P_slices_EqualFunc__api_Type__api_Type_api_Type_api_Type (run cfg) x0 x1 sg = some q) : (run cfg).r F_slices_EqualFunc__api_Type__api_Type_api_Type_api_Type [(x0, .val), (x1, .val), (.undef, (.fn 37 []))] sg = some q := (fix_slices_EqualFunc__api_Type__api_Type_api_Type_api_Type x0 x1 sg).trans h

noncomputable def code_slices_EqualFunc__api_Pat__api_Pat_api_Pat_api_Pat : Code := Try.f39.body.getD .skip
noncomputable def P_slices_EqualFunc__api_Pat__api_Pat_api_Pat_api_Pat (R : Orc) (x0 : DV) (x1 : DV) (sg : List SObj) : Option (List DV × List SObj) := evP cfg R fl_slices_EqualFunc__api_Pat__api_Pat_api_Pat_api_Pat (retR cfg.P Try.f39 sig_slices_EqualFunc__api_Pat__api_Pat_api_Pat_api_Pat) [] code_slices_EqualFunc__api_Pat__api_Pat_api_Pat_api_Pat (initSt Try.f39 [(x0, .val), (x1, .val), (.undef, (.fn 40 []))] sg)
noncomputable def P_slices_EqualFunc__api_Pat__api_Pat_api_Pat_api_Pat_4h (R : Orc) (t1 : DV) (t15 : DV) (t16 : DV) (t17 : DV) (sg : List SObj) : Option (List DV × List SObj) := headP cfg R fl_slices_EqualFunc__api_Pat__api_Pat_api_Pat_api_Pat (retR cfg.P Try.f39 sig_slices_EqualFunc__api_Pat__api_Pat_api_Pat_api_Pat) [true, true, false, true, false] code_slices_EqualFunc__api_Pat__api_Pat_api_Pat_api_Pat ⟨spread .undef 32 0 [(1, t1), (15, t15), (16, t16), (17, t17)], spread .val 32 0 [(2, (.fn 40 []))], spread none 32 0 [], sg⟩
theorem eq_slices_EqualFunc__api_Pat__api_Pat_api_Pat_api_Pat (R : Orc) (x0 : DV) (x1 : DV) (sg : List SObj) : P_slices_EqualFunc__api_Pat__api_Pat_api_Pat_api_Pat R x0 x1 sg =
  (ob (dLen x0) fun d1 =>
  ob (dLen x1) fun d2 =>
  ob (dBin .neq d1 d2) fun d3 =>
  oif d3
   (some ([(.bool false)], sg))
   (ob (dLen x0) fun d4 =>
   P_slices_EqualFunc__api_Pat__api_Pat_api_Pat_api_Pat_4h R x1 x0 d4 (.int .i64 0) sg)) := evP_of [] (by kernel_rfl)
theorem eq_slices_EqualFunc__api_Pat__api_Pat_api_Pat_api_Pat_4h (R : Orc) (t1 : DV) (t15 : DV) (t16 : DV) (t17 : DV) (sg : List SObj) : P_slices_EqualFunc__api_Pat__api_Pat_api_Pat_api_Pat_4h R t1 t15 t16 t17 sg =
  (ob (dBin .lss t17 t16) fun d1 =>
  oif d1
   (ob (dIdx 7 t15 t17) fun d2 =>
   ob (dIdx 7 t1 t17) fun d3 =>
   ob (R.p F_term_samePat [(.agg [(proj 0 d2), (proj 1 d2), (proj 2 d2), (proj 3 d2), (proj 4 d2), (proj 5 d2), (proj 6 d2)]), (.agg [(proj 0 d3), (proj 1 d3), (proj 2 d3), (proj 3 d3), (proj 4 d3), (proj 5 d3), (proj 6 d3)])]) fun d4 =>
   ob (dUn .not d4) fun d5 =>
   oif d5
    (some ([(.bool false)], sg))
    (ob (dBin .add t17 (.int .i64 1)) fun d6 =>
    P_slices_EqualFunc__api_Pat__api_Pat_api_Pat_api_Pat_4h R t1 t15 t16 d6 sg))
   (some ([(.bool true)], sg))) := headP_of [] (by kernel_rfl)
theorem fix_slices_EqualFunc__api_Pat__api_Pat_api_Pat_api_Pat (x0 : DV) (x1 : DV) (sg : List SObj) : (run cfg).r F_slices_EqualFunc__api_Pat__api_Pat_api_Pat_api_Pat [(x0, .val), (x1, .val), (.undef, (.fn 40 []))] sg = P_slices_EqualFunc__api_Pat__api_Pat_api_Pat_api_Pat (run cfg) x0 x1 sg :=
  (fix_raw (C := cfg) (f := F_slices_EqualFunc__api_Pat__api_Pat_api_Pat_api_Pat) (s := sig_slices_EqualFunc__api_Pat__api_Pat_api_Pat_api_Pat) (fn := Try.f39) (c := code_slices_EqualFunc__api_Pat__api_Pat_api_Pat_api_Pat) (by kernel_rfl) Try.func39 (by kernel_rfl)).trans (by kernel_rfl)
theorem call_slices_EqualFunc__api_Pat__api_Pat_api_Pat_api_Pat (x0 : DV) (x1 : DV) (sg : List SObj) {q : List DV × List SObj} (h : P_slices_EqualFunc__api_Pat__api_Pat_api_Pat_api_Pat (run cfg) x0 x1 sg = some q) : (run cfg).r F_slices_EqualFunc__api_Pat__api_Pat_api_Pat_api_Pat [(x0, .val), (x1, .val), (.undef, (.fn 40 []))] sg = some q := (fix_slices_EqualFunc__api_Pat__api_Pat_api_Pat_api_Pat x0 x1 sg).trans h

noncomputable def code_term_samePat : Code := Try.f40.body.getD .skip
noncomputable def P_term_samePat (R : Orc) (x0 : DV) (x1 : DV) : Option DV := evP cfg R fl_term_samePat (retP cfg.P Try.f40) [] code_term_samePat (initSt Try.f40 [(x0, .val), (x1, .val)] [])
set_option maxRecDepth 100000 in
theorem eq_term_samePat (R : Orc) (x0 : DV) (x1 : DV) : P_term_samePat R x0 x1 =
  (og (isAggN 7 x0) <|
  og (isAggN 7 x1) <|
  ob (dBin .eql (proj 0 x0) (proj 0 x1)) fun d1 =>
  ogd d1
   (ob (dEqA [.int, .int] (.agg [(proj 1 x0), (proj 2 x0)]) (.agg [(proj 1 x1), (proj 2 x1)])) fun b2 =>
   ogd (.bool b2)
    (ob (dBin .eql (proj 3 x0) (proj 3 x1)) fun d3 =>
    ogd d3
     (ob (dBin .eql (proj 4 x0) (proj 4 x1)) fun d4 =>
     ogd d4
      (ob (dBin .eql (proj 5 x0) (proj 5 x1)) fun d5 =>
      ogd d5
       (ob (R.r F_slices_EqualFunc__api_Pat__api_Pat_api_Pat_api_Pat [((proj 6 x0), .val), ((proj 6 x1), .val), (.undef, (.fn 40 []))] []) fun q6 =>
       some (q6.1.getD 0 .undef))
       (some (.bool false))
       none)
      (some (.bool false))
      none)
     (some (.bool false))
     none)
    (some (.bool false))
    none)
   (some (.bool false))
   none) := evP_of [] (by kernel_rfl)
theorem fix_term_samePat (x0 : DV) (x1 : DV) : (run cfg).p F_term_samePat [x0, x1] = P_term_samePat (run cfg) x0 x1 :=
  (fix_pure (C := cfg) (f := F_term_samePat) (fn := Try.f40) (c := code_term_samePat) (by kernel_rfl) Try.func40 (by kernel_rfl)).trans (by kernel_rfl)
theorem call_term_samePat (x0 : DV) (x1 : DV) {d : DV} (h : P_term_samePat (run cfg) x0 x1 = some d) : (run cfg).p F_term_samePat [x0, x1] = some d := (fix_term_samePat x0 x1).trans h

noncomputable def code_slices_EqualFunc__api_Term__api_Term_api_Term_api_Term : Code := Try.f41.body.getD .skip
noncomputable def P_slices_EqualFunc__api_Term__api_Term_api_Term_api_Term (R : Orc) (x0 : DV) (x1 : DV) (sg : List SObj) : Option (List DV × List SObj) := evP cfg R fl_slices_EqualFunc__api_Term__api_Term_api_Term_api_Term (retR cfg.P Try.f41 sig_slices_EqualFunc__api_Term__api_Term_api_Term_api_Term) [] code_slices_EqualFunc__api_Term__api_Term_api_Term_api_Term (initSt Try.f41 [(x0, .val), (x1, .val), (.undef, (.fn 25 []))] sg)
noncomputable def P_slices_EqualFunc__api_Term__api_Term_api_Term_api_Term_4h (R : Orc) (t1 : DV) (t15 : DV) (t16 : DV) (t17 : DV) (sg : List SObj) : Option (List DV × List SObj) := headP cfg R fl_slices_EqualFunc__api_Term__api_Term_api_Term_api_Term (retR cfg.P Try.f41 sig_slices_EqualFunc__api_Term__api_Term_api_Term_api_Term) [true, true, false, true, false] code_slices_EqualFunc__api_Term__api_Term_api_Term_api_Term ⟨spread .undef 32 0 [(1, t1), (15, t15), (16, t16), (17, t17)], spread .val 32 0 [(2, (.fn 25 []))], spread none 32 0 [], sg⟩
theorem eq_slices_EqualFunc__api_Term__api_Term_api_Term_api_Term (R : Orc) (x0 : DV) (x1 : DV) (sg : List SObj) : P_slices_EqualFunc__api_Term__api_Term_api_Term_api_Term R x0 x1 sg =
  (ob (dLen x0) fun d1 =>
  ob (dLen x1) fun d2 =>
  ob (dBin .neq d1 d2) fun d3 =>
  oif d3
   (some ([(.bool false)], sg))
   (ob (dLen x0) fun d4 =>
   P_slices_EqualFunc__api_Term__api_Term_api_Term_api_Term_4h R x1 x0 d4 (.int .i64 0) sg)) := evP_of [] (by kernel_rfl)
theorem eq_slices_EqualFunc__api_Term__api_Term_api_Term_api_Term_4h (R : Orc) (t1 : DV) (t15 : DV) (t16 : DV) (t17 : DV) (sg : List SObj) : P_slices_EqualFunc__api_Term__api_Term_api_Term_api_Term_4h R t1 t15 t16 t17 sg =
  (ob (dBin .lss t17 t16) fun d1 =>
  oif d1
   (ob (dIdx 20 t15 t17) fun d2 =>
   ob (dIdx 20 t1 t17) fun d3 =>
   ob (R.p F_term_Same [(.agg [(proj 0 d2), (proj 1 d2), (proj 2 d2), (proj 3 d2), (proj 4 d2), (proj 5 d2), (proj 6 d2), (proj 7 d2), (proj 8 d2), (proj 9 d2), (proj 10 d2), (proj 11 d2), (proj 12 d2), (proj 13 d2), (proj 14 d2), (proj 15 d2), (proj 16 d2), (proj 17 d2), (proj 18 d2), (proj 19 d2)]), (.agg [(proj 0 d3), (proj 1 d3), (proj 2 d3), (proj 3 d3), (proj 4 d3), (proj 5 d3), (proj 6 d3), (proj 7 d3), (proj 8 d3), (proj 9 d3), (proj 10 d3), (proj 11 d3), (proj 12 d3), (proj 13 d3), (proj 14 d3), (proj 15 d3), (proj 16 d3), (proj 17 d3), (proj 18 d3), (proj 19 d3)])]) fun d4 =>
   ob (dUn .not d4) fun d5 =>
   oif d5
    (some ([(.bool false)], sg))
    (ob (dBin .add t17 (.int .i64 1)) fun d6 =>
    P_slices_EqualFunc__api_Term__api_Term_api_Term_api_Term_4h R t1 t15 t16 d6 sg))
   (some ([(.bool true)], sg))) := headP_of [] (by kernel_rfl)
theorem fix_slices_EqualFunc__api_Term__api_Term_api_Term_api_Term (x0 : DV) (x1 : DV) (sg : List SObj) : (run cfg).r F_slices_EqualFunc__api_Term__api_Term_api_Term_api_Term [(x0, .val), (x1, .val), (.undef, (.fn 25 []))] sg = P_slices_EqualFunc__api_Term__api_Term_api_Term_api_Term (run cfg) x0 x1 sg :=
  (fix_raw (C := cfg) (f := F_slices_EqualFunc__api_Term__api_Term_api_Term_api_Term) (s := sig_slices_EqualFunc__api_Term__api_Term_api_Term_api_Term) (fn := Try.f41) (c := code_slices_EqualFunc__api_Term__api_Term_api_Term_api_Term) (by kernel_rfl) Try.func41 (by kernel_rfl)).trans (by kernel_rfl)
theorem call_slices_EqualFunc__api_Term__api_Term_api_Term_api_Term (x0 : DV) (x1 : DV) (sg : List SObj) {q : List DV × List SObj} (h : P_slices_EqualFunc__api_Term__api_Term_api_Term_api_Term (run cfg) x0 x1 sg = some q) : (run cfg).r F_slices_EqualFunc__api_Term__api_Term_api_Term_api_Term [(x0, .val), (x1, .val), (.undef, (.fn 25 []))] sg = some q := (fix_slices_EqualFunc__api_Term__api_Term_api_Term_api_Term x0 x1 sg).trans h

noncomputable def code_l03_count : Code := Try.f42.body.getD .skip
noncomputable def P_l03_count (R : Orc) (x0 : DV) (x1 : DV) : Option DV := evP cfg R fl_l03_count (retP cfg.P Try.f42) [] code_l03_count (initSt Try.f42 [(x0, .val), (x1, .val)] [])
noncomputable def P_l03_count_3h (R : Orc) (t1 : DV) (t5 : DV) (b2 : DV) : Option DV := headP cfg R fl_l03_count (retP cfg.P Try.f42) [true, true, false, true, false] code_l03_count ⟨spread .undef 27 0 [(1, t1), (5, t5)], spread .val 27 0 [(2, (.loc 2 0))], spread none 27 0 [(2, some [((proj 0 b2), .val), ((proj 1 b2), .val), ((proj 2 b2), .val)])], []⟩
theorem eq_l03_count (R : Orc) (x0 : DV) (x1 : DV) : P_l03_count R x0 x1 =
  (og (isAggN 3 x0) <|
  ob (dBin .add x1 (.int .i64 1)) fun d1 =>
  P_l03_count_3h R d1 (.int .i64 0) x0) := evP_of [] (by kernel_rfl)
theorem eq_l03_count_3h (R : Orc) (t1 : DV) (t5 : DV) (b2 : DV) : P_l03_count_3h R t1 t5 b2 =
  (ob (dLen (proj 2 b2)) fun d1 =>
  ob (dBin .lss t5 d1) fun d2 =>
  ogd d2
   (ob (dBin .leq t1 (.int .i64 600)) fun d3 =>
   oif d3
    (ob (dIdx 3 (proj 2 b2) t5) fun d4 =>
    ob (R.p F_l03_count [(.agg [(proj 0 d4), (proj 1 d4), (proj 2 d4)]), t1]) fun d5 =>
    ob (dBin .add t5 (.int .i64 1)) fun d6 =>
    P_l03_count_3h R d5 d6 b2)
    (some t1))
   (some t1)
   none) := headP_of [] (by kernel_rfl)
theorem fix_l03_count (x0 : DV) (x1 : DV) : (run cfg).p F_l03_count [x0, x1] = P_l03_count (run cfg) x0 x1 :=
  (fix_pure (C := cfg) (f := F_l03_count) (fn := Try.f42) (c := code_l03_count) (by kernel_rfl) Try.func42 (by kernel_rfl)).trans (by kernel_rfl)
theorem call_l03_count (x0 : DV) (x1 : DV) {d : DV} (h : P_l03_count (run cfg) x0 x1 = some d) : (run cfg).p F_l03_count [x0, x1] = some d := (fix_l03_count x0 x1).trans h

noncomputable def code_r03_vars : Code := Try.f43.body.getD .skip
noncomputable def P_r03_vars (R : Orc) (x0 : DV) (x1 : DV) (sg : List SObj) : Option (List DV × List SObj) := evP cfg R fl_r03_vars (retR cfg.P Try.f43 sig_r03_vars) [] code_r03_vars (initSt Try.f43 [(x0, .val), (x1, .own)] sg)
noncomputable def P_r03_vars_3 (R : Orc) (t1 : DV) (b2 : DV) (sg : List SObj) : Option (List DV × List SObj) := evP cfg R fl_r03_vars (retR cfg.P Try.f43 sig_r03_vars) [true, true] code_r03_vars ⟨spread .undef 36 0 [(1, t1)], spread .val 36 0 [(1, .own), (2, (.loc 2 0))], spread none 36 0 [(2, some [((proj 0 b2), .val), ((proj 1 b2), .val), ((proj 2 b2), .val)])], sg⟩
noncomputable def P_r03_vars_4h (R : Orc) (t1 : DV) (t5 : DV) (b2 : DV) (sg : List SObj) : Option (List DV × List SObj) := headP cfg R fl_r03_vars (retR cfg.P Try.f43 sig_r03_vars) [true, true, false, true, false] code_r03_vars ⟨spread .undef 36 0 [(1, t1), (5, t5)], spread .val 36 0 [(1, .own), (2, (.loc 2 0))], spread none 36 0 [(2, some [((proj 0 b2), .val), ((proj 1 b2), .val), ((proj 2 b2), .val)])], sg⟩
theorem eq_r03_vars (R : Orc) (x0 : DV) (x1 : DV) (sg : List SObj) : P_r03_vars R x0 x1 sg =
  (og (isAggN 3 x0) <|
  ob (dBin .eql (proj 0 x0) (.int .i64 6)) fun d1 =>
  ogd d1
   (ob (R.p F_r03_In [x1, (proj 1 x0)]) fun d2 =>
   ob (dUn .not d2) fun d3 =>
   oif d3
    (og (isCell (proj 1 x0)) <|
    ob (dApp 1 x1 (.list 1 [(proj 1 x0)])) fun d4 =>
    P_r03_vars_3 R d4 x0 sg)
    (P_r03_vars_3 R x1 x0 sg))
   (P_r03_vars_3 R x1 x0 sg)
   none) := evP_of [3] (by kernel_rfl)
theorem eq_r03_vars_3 (R : Orc) (t1 : DV) (b2 : DV) (sg : List SObj) : P_r03_vars_3 R t1 b2 sg =
  (P_r03_vars_4h R t1 (.int .i64 0) b2 sg) := evP_of [3] (by kernel_rfl)
theorem eq_r03_vars_4h (R : Orc) (t1 : DV) (t5 : DV) (b2 : DV) (sg : List SObj) : P_r03_vars_4h R t1 t5 b2 sg =
  (ob (dLen (proj 2 b2)) fun d1 =>
  ob (dBin .lss t5 d1) fun d2 =>
  oif d2
   (ob (dIdx 3 (proj 2 b2) t5) fun d3 =>
   ob (R.r F_r03_vars [((.agg [(proj 0 d3), (proj 1 d3), (proj 2 d3)]), .val), (t1, .own)] sg) fun q4 =>
   ob (dBin .add t5 (.int .i64 1)) fun d5 =>
   P_r03_vars_4h R (q4.1.getD 0 .undef) d5 b2 q4.2)
   (some ([t1], sg))) := headP_of [3] (by kernel_rfl)
theorem fix_r03_vars (x0 : DV) (x1 : DV) (sg : List SObj) : (run cfg).r F_r03_vars [(x0, .val), (x1, .own)] sg = P_r03_vars (run cfg) x0 x1 sg :=
  (fix_raw (C := cfg) (f := F_r03_vars) (s := sig_r03_vars) (fn := Try.f43) (c := code_r03_vars) (by kernel_rfl) Try.func43 (by kernel_rfl)).trans (by kernel_rfl)
theorem call_r03_vars (x0 : DV) (x1 : DV) (sg : List SObj) {q : List DV × List SObj} (h : P_r03_vars (run cfg) x0 x1 sg = some q) : (run cfg).r F_r03_vars [(x0, .val), (x1, .own)] sg = some q := (fix_r03_vars x0 x1 sg).trans h

noncomputable def code_term_shapeOf : Code := Try.f44.body.getD .skip
noncomputable def P_term_shapeOf (R : Orc) (x0 : DV) : Option DV := evP cfg R fl_term_shapeOf (retP cfg.P Try.f44) [] code_term_shapeOf (initSt Try.f44 [(x0, .val)] [])
set_option maxRecDepth 100000 in
theorem eq_term_shapeOf (R : Orc) (x0 : DV) : P_term_shapeOf R x0 =
  (og (isAggN 20 x0) <|
  ob (dBin .eql (proj 0 x0) (.int .i64 1)) fun d1 =>
  oif d1
   (some (.tup [(.agg [(.bool true), (.bool false), (.bool false), (.bool false), (.bool false), (.bool false), (.bool false), (.bool true), (.bool false), (.bool false), (.bool false), (.bool false), (.int .i64 0)]), (.bool true)]))
   (ob (dBin .eql (proj 0 x0) (.int .i64 2)) fun d2 =>
   oif d2
    (some (.tup [(.agg [(.bool false), (.bool false), (.bool true), (.bool false), (.bool false), (.bool false), (.bool false), (.bool false), (.bool false), (.bool false), (.bool false), (.bool false), (.int .i64 0)]), (.bool true)]))
    (ob (dBin .eql (proj 0 x0) (.int .i64 3)) fun d3 =>
    oif d3
     (some (.tup [(.agg [(.bool false), (.bool false), (.bool true), (.bool false), (.bool false), (.bool false), (.bool false), (.bool false), (.bool false), (.bool false), (.bool false), (.bool false), (.int .i64 0)]), (.bool true)]))
     (ob (dBin .eql (proj 0 x0) (.int .i64 4)) fun d4 =>
     oif d4
      (some (.tup [(.agg [(.bool false), (.bool false), (.bool false), (.bool true), (.bool false), (.bool false), (.bool false), (.bool false), (.bool false), (.bool false), (.bool false), (.bool false), (.int .i64 0)]), (.bool true)]))
      (ob (dBin .eql (proj 0 x0) (.int .i64 5)) fun d5 =>
      oif d5
       (some (.tup [(.agg [(.bool false), (.bool false), (.bool false), (.bool false), (.bool false), (.bool false), (.bool false), (.bool false), (.bool false), (.bool false), (.bool false), (.bool false), (.int .i64 0)]), (.bool true)]))
       (ob (dBin .eql (proj 0 x0) (.int .i64 7)) fun d6 =>
       oif d6
        (some (.tup [(.agg [(.bool false), (.bool false), (.bool false), (.bool false), (.bool false), (.bool false), (.bool false), (.bool false), (.bool false), (.bool true), (.bool false), (.bool false), (.int .i64 0)]), (.bool true)]))
        (ob (dBin .eql (proj 0 x0) (.int .i64 6)) fun d7 =>
        oif d7
         (some (.tup [(.agg [(.bool false), (.bool false), (.bool false), (.bool false), (.bool false), (.bool false), (.bool false), (.bool false), (.bool false), (.bool false), (.bool false), (.bool false), (.int .i64 2)]), (.bool true)]))
         (ob (dBin .eql (proj 0 x0) (.int .i64 8)) fun d8 =>
         oif d8
          (some (.tup [(.agg [(.bool false), (.bool false), (.bool false), (.bool false), (.bool false), (.bool false), (.bool false), (.bool false), (.bool false), (.bool false), (.bool false), (.bool false), (.int .i64 2)]), (.bool true)]))
          (ob (dBin .eql (proj 0 x0) (.int .i64 10)) fun d9 =>
          oif d9
           (some (.tup [(.agg [(.bool false), (.bool false), (.bool false), (.bool false), (.bool false), (.bool false), (.bool false), (.bool false), (.bool false), (.bool false), (.bool false), (.bool false), (.int .i64 2)]), (.bool true)]))
           (ob (dBin .eql (proj 0 x0) (.int .i64 9)) fun d10 =>
           oif d10
            (some (.tup [(.agg [(.bool true), (.bool false), (.bool false), (.bool false), (.bool false), (.bool false), (.bool false), (.bool false), (.bool false), (.bool true), (.bool false), (.bool false), (.int .i64 1)]), (.bool true)]))
            (ob (dBin .eql (proj 0 x0) (.int .i64 11)) fun d11 =>
            oif d11
             (some (.tup [(.agg [(.bool true), (.bool false), (.bool false), (.bool false), (.bool false), (.bool false), (.bool true), (.bool false), (.bool false), (.bool false), (.bool false), (.bool false), (.int .i64 2)]), (.bool true)]))
             (ob (dBin .eql (proj 0 x0) (.int .i64 12)) fun d12 =>
             oif d12
              (some (.tup [(.agg [(.bool true), (.bool true), (.bool false), (.bool false), (.bool false), (.bool false), (.bool true), (.bool false), (.bool false), (.bool true), (.bool true), (.bool false), (.int .i64 2)]), (.bool true)]))
              (ob (dBin .eql (proj 0 x0) (.int .i64 13)) fun d13 =>
              oif d13
               (some (.tup [(.agg [(.bool false), (.bool false), (.bool false), (.bool false), (.bool false), (.bool false), (.bool false), (.bool false), (.bool false), (.bool false), (.bool false), (.bool false), (.int .i64 3)]), (.bool true)]))
               (ob (dBin .eql (proj 0 x0) (.int .i64 14)) fun d14 =>
               oif d14
                (ob (dLen (proj 18 x0)) fun d15 =>
                ob (dBin .add d15 (.int .i64 1)) fun d16 =>
                og (isCell d16) <|
                ob (dLen (proj 18 x0)) fun d17 =>
                ob (dBin .gtr d17 (.int .i64 0)) fun d18 =>
                some (.tup [(.agg [(.bool false), (.bool false), (.bool false), (.bool false), (.bool false), (.bool true), (.bool false), (.bool false), (.bool true), (.bool false), (.bool false), (.bool false), d16]), d18]))
                (ob (dBin .eql (proj 0 x0) (.int .i64 15)) fun d19 =>
                oif d19
                 (some (.tup [(.agg [(.bool false), (.bool false), (.bool false), (.bool false), (.bool true), (.bool true), (.bool false), (.bool false), (.bool false), (.bool false), (.bool false), (.bool false), (.int .i64 2)]), (.bool true)]))
                 (ob (dBin .eql (proj 0 x0) (.int .i64 16)) fun d20 =>
                 oif d20
                  (some (.tup [(.agg [(.bool false), (.bool false), (.bool false), (.bool false), (.bool false), (.bool false), (.bool false), (.bool false), (.bool false), (.bool true), (.bool true), (.bool true), (.int .i64 1)]), (.bool true)]))
                  (some (.tup [(.agg [(.bool false), (.bool false), (.bool false), (.bool false), (.bool false), (.bool false), (.bool false), (.bool false), (.bool false), (.bool false), (.bool false), (.bool false), (.int .i64 0)]), (.bool false)])))))))))))))))))) := evP_of [] (by kernel_rfl)
theorem fix_term_shapeOf (x0 : DV) : (run cfg).p F_term_shapeOf [x0] = P_term_shapeOf (run cfg) x0 :=
  (fix_pure (C := cfg) (f := F_term_shapeOf) (fn := Try.f44) (c := code_term_shapeOf) (by kernel_rfl) Try.func44 (by kernel_rfl)).trans (by kernel_rfl)
theorem call_term_shapeOf (x0 : DV) {d : DV} (h : P_term_shapeOf (run cfg) x0 = some d) : (run cfg).p F_term_shapeOf [x0] = some d := (fix_term_shapeOf x0).trans h

noncomputable def code_term_named : Code := Try.f45.body.getD .skip
noncomputable def P_term_named (R : Orc) (x0 : DV) (x1 : DV) : Option DV := evP cfg R fl_term_named (retP cfg.P Try.f45) [] code_term_named (initSt Try.f45 [(x0, .val), (x1, .val)] [])
theorem eq_term_named (R : Orc) (x0 : DV) (x1 : DV) : P_term_named R x0 x1 =
  (oif x0
   (ob (R.p F_word_Name [x1]) fun d1 =>
   some d1)
   (ob (dBin .eql x1 (.str ⟨#[]⟩)) fun d2 =>
   some d2)) := evP_of [] (by kernel_rfl)
theorem fix_term_named (x0 : DV) (x1 : DV) : (run cfg).p F_term_named [x0, x1] = P_term_named (run cfg) x0 x1 :=
  (fix_pure (C := cfg) (f := F_term_named) (fn := Try.f45) (c := code_term_named) (by kernel_rfl) Try.func45 (by kernel_rfl)).trans (by kernel_rfl)
theorem call_term_named (x0 : DV) (x1 : DV) {d : DV} (h : P_term_named (run cfg) x0 x1 = some d) : (run cfg).p F_term_named [x0, x1] = some d := (fix_term_named x0 x1).trans h

noncomputable def code_term_typed : Code := Try.f46.body.getD .skip
noncomputable def P_term_typed (R : Orc) (x0 : DV) (x1 : DV) : Option DV := evP cfg R fl_term_typed (retP cfg.P Try.f46) [] code_term_typed (initSt Try.f46 [(x0, .val), (x1, .val)] [])
theorem eq_term_typed (R : Orc) (x0 : DV) (x1 : DV) : P_term_typed R x0 x1 =
  (og (isAggN 3 x1) <|
  oif x0
   (ob (R.p F_typ_Check [(.agg [(proj 0 x1), (proj 1 x1), (proj 2 x1)])]) fun d1 =>
   ob (dBin .eql d1 (.int .i64 0)) fun d2 =>
   some d2)
   (ob (R.p F_term_none [(.agg [(proj 0 x1), (proj 1 x1), (proj 2 x1)])]) fun d3 =>
   some d3)) := evP_of [] (by kernel_rfl)
theorem fix_term_typed (x0 : DV) (x1 : DV) : (run cfg).p F_term_typed [x0, x1] = P_term_typed (run cfg) x0 x1 :=
  (fix_pure (C := cfg) (f := F_term_typed) (fn := Try.f46) (c := code_term_typed) (by kernel_rfl) Try.func46 (by kernel_rfl)).trans (by kernel_rfl)
theorem call_term_typed (x0 : DV) (x1 : DV) {d : DV} (h : P_term_typed (run cfg) x0 x1 = some d) : (run cfg).p F_term_typed [x0, x1] = some d := (fix_term_typed x0 x1).trans h

noncomputable def code_term_lists : Code := Try.f47.body.getD .skip
noncomputable def P_term_lists (R : Orc) (x0 : DV) : Option DV := evP cfg R fl_term_lists (retP cfg.P Try.f47) [] code_term_lists (initSt Try.f47 [(x0, .val)] [])
noncomputable def P_term_lists_2h (R : Orc) (t10 : DV) (t11 : DV) (t12 : DV) (b1 : DV) : Option DV := headP cfg R fl_term_lists (retP cfg.P Try.f47) [true, false, true, false] code_term_lists ⟨spread .undef 45 0 [(10, t10), (11, t11), (12, t12)], spread .val 45 0 [(1, (.loc 1 0))], spread none 45 0 [(1, some [((proj 0 b1), .val), ((proj 1 b1), .val), ((proj 2 b1), .val), ((proj 3 b1), .val), ((proj 4 b1), .val), ((proj 5 b1), .val), ((proj 6 b1), .val), ((proj 7 b1), .val), ((proj 8 b1), .val), ((proj 9 b1), .val), ((proj 10 b1), .val), ((proj 11 b1), .val), ((proj 12 b1), .val), ((proj 13 b1), .val), ((proj 14 b1), .val), ((proj 15 b1), .val), ((proj 16 b1), .val), ((proj 17 b1), .val), ((proj 18 b1), .val), ((proj 19 b1), .val)])], []⟩
noncomputable def P_term_lists_8h (R : Orc) (t24 : DV) (t25 : DV) (t26 : DV) (b1 : DV) : Option DV := headP cfg R fl_term_lists (retP cfg.P Try.f47) [true, true, false, true, false] code_term_lists ⟨spread .undef 45 0 [(24, t24), (25, t25), (26, t26)], spread .val 45 0 [(1, (.loc 1 0))], spread none 45 0 [(1, some [((proj 0 b1), .val), ((proj 1 b1), .val), ((proj 2 b1), .val), ((proj 3 b1), .val), ((proj 4 b1), .val), ((proj 5 b1), .val), ((proj 6 b1), .val), ((proj 7 b1), .val), ((proj 8 b1), .val), ((proj 9 b1), .val), ((proj 10 b1), .val), ((proj 11 b1), .val), ((proj 12 b1), .val), ((proj 13 b1), .val), ((proj 14 b1), .val), ((proj 15 b1), .val), ((proj 16 b1), .val), ((proj 17 b1), .val), ((proj 18 b1), .val), ((proj 19 b1), .val)])], []⟩
noncomputable def P_term_lists_14h (R : Orc) (t35 : DV) (t36 : DV) (t37 : DV) : Option DV := headP cfg R fl_term_lists (retP cfg.P Try.f47) [true, true, true, false, true, false] code_term_lists ⟨spread .undef 45 0 [(35, t35), (36, t36), (37, t37)], spread .val 45 0 [], spread none 45 0 [], []⟩
theorem eq_term_lists (R : Orc) (x0 : DV) : P_term_lists R x0 =
  (og (isAggN 20 x0) <|
  ob (dLen (proj 10 x0)) fun d1 =>
  P_term_lists_2h R (proj 10 x0) d1 (.int .i64 0) x0) := evP_of [] (by kernel_rfl)
theorem eq_term_lists_2h (R : Orc) (t10 : DV) (t11 : DV) (t12 : DV) (b1 : DV) : P_term_lists_2h R t10 t11 t12 b1 =
  (ob (dBin .lss t12 t11) fun d1 =>
  oif d1
   (ob (dIdx 1 t10 t12) fun d2 =>
   og (isLeaf d2) <|
   ob (dBin .lss d2 (.int .i64 0)) fun d3 =>
   ogd d3
    (some (.bool false))
    (ob (dBin .gtr d2 (.int .i64 1048576)) fun d4 =>
    oif d4
     (some (.bool false))
     (ob (dBin .add t12 (.int .i64 1)) fun d5 =>
     P_term_lists_2h R t10 t11 d5 b1))
    none)
   (ob (dLen (proj 17 b1)) fun d6 =>
   P_term_lists_8h R (proj 17 b1) d6 (.int .i64 0) b1)) := headP_of [] (by kernel_rfl)
theorem eq_term_lists_8h (R : Orc) (t24 : DV) (t25 : DV) (t26 : DV) (b1 : DV) : P_term_lists_8h R t24 t25 t26 b1 =
  (ob (dBin .lss t26 t25) fun d1 =>
  oif d1
   (ob (dIdx 3 t24 t26) fun d2 =>
   ob (R.p F_typ_Check [(.agg [(proj 0 d2), (proj 1 d2), (proj 2 d2)])]) fun d3 =>
   ob (dBin .neq d3 (.int .i64 0)) fun d4 =>
   oif d4
    (some (.bool false))
    (ob (dBin .add t26 (.int .i64 1)) fun d5 =>
    P_term_lists_8h R t24 t25 d5 b1))
   (ob (dLen (proj 18 b1)) fun d6 =>
   P_term_lists_14h R (proj 18 b1) d6 (.int .i64 0))) := headP_of [] (by kernel_rfl)
theorem eq_term_lists_14h (R : Orc) (t35 : DV) (t36 : DV) (t37 : DV) : P_term_lists_14h R t35 t36 t37 =
  (ob (dBin .lss t37 t36) fun d1 =>
  oif d1
   (ob (dIdx 7 t35 t37) fun d2 =>
   ob (R.p F_tree_CheckPat [(.agg [(proj 0 d2), (proj 1 d2), (proj 2 d2), (proj 3 d2), (proj 4 d2), (proj 5 d2), (proj 6 d2)])]) fun d3 =>
   ob (dBin .neq d3 (.int .i64 0)) fun d4 =>
   oif d4
    (some (.bool false))
    (ob (dBin .add t37 (.int .i64 1)) fun d5 =>
    P_term_lists_14h R t35 t36 d5))
   (some (.bool true))) := headP_of [] (by kernel_rfl)
theorem fix_term_lists (x0 : DV) : (run cfg).p F_term_lists [x0] = P_term_lists (run cfg) x0 :=
  (fix_pure (C := cfg) (f := F_term_lists) (fn := Try.f47) (c := code_term_lists) (by kernel_rfl) Try.func47 (by kernel_rfl)).trans (by kernel_rfl)
theorem call_term_lists (x0 : DV) {d : DV} (h : P_term_lists (run cfg) x0 = some d) : (run cfg).p F_term_lists [x0] = some d := (fix_term_lists x0).trans h

noncomputable def code_term_types : Code := Try.f48.body.getD .skip
noncomputable def P_term_types (R : Orc) (x0 : DV) (x1 : DV) : Option DV := evP cfg R fl_term_types (retP cfg.P Try.f48) [] code_term_types (initSt Try.f48 [(x0, .val), (x1, .val)] [])
noncomputable def P_term_types_3h (R : Orc) (t1 : DV) (t18r3 : Nat) (t19 : DV) (t20 : DV) (b2_0 : DV) (b2_1 : DV) (b2_2 : DV) (b2_3 : DV) (b2_4 : DV) (b2_5 : DV) (b2_6 : DV) (b2_7 : DV) (b2_8 : DV) (b2_9 : DV) (b2_10 : DV) (b2_11 : DV) (b2_12 : DV) (b2_13 : DV) (b2_14 : DV) (b2_15 : DV) (b2_16 : DV) (b2_17r3 : Nat) (b2_18 : DV) (b2_19r3 : Nat) (b4_0 : DV) (b4_1 : DV) (b4_2 : DV) (b4_3 : DV) (b4_4 : DV) (b4_5 : DV) (b4_6 : DV) (b4_7 : DV) (b4_8 : DV) (b4_9 : DV) (b4_10 : DV) (b4_11 : DV) (b4_12 : DV) (b4_13 : DV) (b4_14 : DV) (b4_15 : DV) (b4_16 : DV) (b4_17 : DV) (b4_18 : DV) (b4_19 : DV) (sg : List SObj) : Option DV := headP cfg R fl_term_types (retP cfg.P Try.f48) [true, true, false, true, false] code_term_types ⟨spread .undef 69 0 [(1, t1), (19, t19), (20, t20)], spread .val 69 0 [(2, (.loc 2 0)), (4, (.loc 4 0)), (18, (.arr 0 3 0 t18r3))], spread none 69 0 [(2, some [(b2_0, .val), (b2_1, .val), (b2_2, .val), (b2_3, .val), (b2_4, .val), (b2_5, .val), (b2_6, .val), (b2_7, .val), (b2_8, .val), (b2_9, .val), (b2_10, .val), (b2_11, .val), (b2_12, .val), (b2_13, .val), (b2_14, .val), (b2_15, .val), (b2_16, .val), (.undef, (.arr 0 3 0 b2_17r3)), (b2_18, .val), (.undef, (.arr 1 20 0 b2_19r3))]), (4, some [(b4_0, .val), (b4_1, .val), (b4_2, .val), (b4_3, .val), (b4_4, .val), (b4_5, .val), (b4_6, .val), (b4_7, .val), (b4_8, .val), (b4_9, .val), (b4_10, .val), (b4_11, .val), (b4_12, .val), (b4_13, .val), (b4_14, .val), (b4_15, .val), (b4_16, .val), (b4_17, .val), (b4_18, .val), (b4_19, .val)])], sg⟩
noncomputable def P_term_types_8h (R : Orc) (t1 : DV) (t34r3 : Nat) (t35 : DV) (t36 : DV) (b2_0 : DV) (b2_1 : DV) (b2_2 : DV) (b2_3 : DV) (b2_4 : DV) (b2_5 : DV) (b2_6 : DV) (b2_7 : DV) (b2_8 : DV) (b2_9 : DV) (b2_10 : DV) (b2_11 : DV) (b2_12 : DV) (b2_13 : DV) (b2_14 : DV) (b2_15 : DV) (b2_16 : DV) (b2_17r3 : Nat) (b2_18 : DV) (b2_19r3 : Nat) (b4_0 : DV) (b4_1 : DV) (b4_2 : DV) (b4_3 : DV) (b4_4 : DV) (b4_5 : DV) (b4_6 : DV) (b4_7 : DV) (b4_8 : DV) (b4_9 : DV) (b4_10 : DV) (b4_11 : DV) (b4_12 : DV) (b4_13 : DV) (b4_14 : DV) (b4_15 : DV) (b4_16 : DV) (b4_17 : DV) (b4_18 : DV) (b4_19 : DV) (sg : List SObj) : Option DV := headP cfg R fl_term_types (retP cfg.P Try.f48) [true, true, true, false, true, false] code_term_types ⟨spread .undef 69 0 [(1, t1), (35, t35), (36, t36)], spread .val 69 0 [(2, (.loc 2 0)), (4, (.loc 4 0)), (34, (.arr 1 20 0 t34r3))], spread none 69 0 [(2, some [(b2_0, .val), (b2_1, .val), (b2_2, .val), (b2_3, .val), (b2_4, .val), (b2_5, .val), (b2_6, .val), (b2_7, .val), (b2_8, .val), (b2_9, .val), (b2_10, .val), (b2_11, .val), (b2_12, .val), (b2_13, .val), (b2_14, .val), (b2_15, .val), (b2_16, .val), (.undef, (.arr 0 3 0 b2_17r3)), (b2_18, .val), (.undef, (.arr 1 20 0 b2_19r3))]), (4, some [(b4_0, .val), (b4_1, .val), (b4_2, .val), (b4_3, .val), (b4_4, .val), (b4_5, .val), (b4_6, .val), (b4_7, .val), (b4_8, .val), (b4_9, .val), (b4_10, .val), (b4_11, .val), (b4_12, .val), (b4_13, .val), (b4_14, .val), (b4_15, .val), (b4_16, .val), (b4_17, .val), (b4_18, .val), (b4_19, .val)])], sg⟩
noncomputable def P_term_types_14 (R : Orc) (t1 : DV) (b2_0 : DV) (b2_1 : DV) (b2_2 : DV) (b2_3 : DV) (b2_4 : DV) (b2_5 : DV) (b2_6 : DV) (b2_7 : DV) (b2_8 : DV) (b2_9 : DV) (b2_10 : DV) (b2_11 : DV) (b2_12 : DV) (b2_13 : DV) (b2_14 : DV) (b2_15 : DV) (b2_16 : DV) (b2_17r3 : Nat) (b2_18 : DV) (b2_19r3 : Nat) (b4_0 : DV) (b4_1 : DV) (b4_2 : DV) (b4_3 : DV) (b4_4 : DV) (b4_5 : DV) (b4_6 : DV) (b4_7 : DV) (b4_8 : DV) (b4_9 : DV) (b4_10 : DV) (b4_11 : DV) (b4_12 : DV) (b4_13 : DV) (b4_14 : DV) (b4_15 : DV) (b4_16 : DV) (b4_17 : DV) (b4_18 : DV) (b4_19 : DV) (sg : List SObj) : Option DV := evP cfg R fl_term_types (retP cfg.P Try.f48) [true, true, true, true, true] code_term_types ⟨spread .undef 69 0 [(1, t1)], spread .val 69 0 [(2, (.loc 2 0)), (4, (.loc 4 0))], spread none 69 0 [(2, some [(b2_0, .val), (b2_1, .val), (b2_2, .val), (b2_3, .val), (b2_4, .val), (b2_5, .val), (b2_6, .val), (b2_7, .val), (b2_8, .val), (b2_9, .val), (b2_10, .val), (b2_11, .val), (b2_12, .val), (b2_13, .val), (b2_14, .val), (b2_15, .val), (b2_16, .val), (.undef, (.arr 0 3 0 b2_17r3)), (b2_18, .val), (.undef, (.arr 1 20 0 b2_19r3))]), (4, some [(b4_0, .val), (b4_1, .val), (b4_2, .val), (b4_3, .val), (b4_4, .val), (b4_5, .val), (b4_6, .val), (b4_7, .val), (b4_8, .val), (b4_9, .val), (b4_10, .val), (b4_11, .val), (b4_12, .val), (b4_13, .val), (b4_14, .val), (b4_15, .val), (b4_16, .val), (b4_17, .val), (b4_18, .val), (b4_19, .val)])], sg⟩
theorem eq_term_types (R : Orc) (x0 : DV) (x1 : DV) : P_term_types R x0 x1 =
  (og (isAggN 20 x0) <|
  ob (dList (proj 17 x0)) fun p1 =>
  og (true && p1.1 == 3 && decide (p1.2.length ≤ lim)) <|
  ob (dList (proj 19 x0)) fun p2 =>
  og (true && p2.1 == 20 && decide (p2.2.length ≤ lim)) <|
  P_term_types_3h R x1 (p1.2.length) (.int .i64 p1.2.length) (.int .i64 0) (proj 0 x0) (proj 1 x0) (proj 2 x0) (proj 3 x0) (proj 4 x0) (proj 5 x0) (proj 6 x0) (proj 7 x0) (proj 8 x0) (proj 9 x0) (proj 10 x0) (proj 11 x0) (proj 12 x0) (proj 13 x0) (proj 14 x0) (proj 15 x0) (proj 16 x0) (p1.2.length) (proj 18 x0) (p2.2.length) (.int .i64 0) (.int .i64 0) (.int .i64 0) (.str ⟨#[]⟩) (.str ⟨#[]⟩) (.int .i64 0) (.str ⟨#[]⟩) (.int .i64 0) (.int .i64 0) (.bool false) (.list 1 []) (.int .i64 0) (.int .i64 0) (.list 3 []) (.int .i64 0) (.int .i64 0) (.list 3 []) (.list 3 []) (.list 7 []) (.list 20 []) [.arr 3 p1.2, .arr 20 p2.2]) := evP_of [14] (by kernel_rfl)
theorem eq_term_types_3h (R : Orc) (t1 : DV) (t18r3 : Nat) (t19 : DV) (t20 : DV) (b2_0 : DV) (b2_1 : DV) (b2_2 : DV) (b2_3 : DV) (b2_4 : DV) (b2_5 : DV) (b2_6 : DV) (b2_7 : DV) (b2_8 : DV) (b2_9 : DV) (b2_10 : DV) (b2_11 : DV) (b2_12 : DV) (b2_13 : DV) (b2_14 : DV) (b2_15 : DV) (b2_16 : DV) (b2_17r3 : Nat) (b2_18 : DV) (b2_19r3 : Nat) (b4_0 : DV) (b4_1 : DV) (b4_2 : DV) (b4_3 : DV) (b4_4 : DV) (b4_5 : DV) (b4_6 : DV) (b4_7 : DV) (b4_8 : DV) (b4_9 : DV) (b4_10 : DV) (b4_11 : DV) (b4_12 : DV) (b4_13 : DV) (b4_14 : DV) (b4_15 : DV) (b4_16 : DV) (b4_17 : DV) (b4_18 : DV) (b4_19 : DV) (sg : List SObj) : P_term_types_3h R t1 t18r3 t19 t20 b2_0 b2_1 b2_2 b2_3 b2_4 b2_5 b2_6 b2_7 b2_8 b2_9 b2_10 b2_11 b2_12 b2_13 b2_14 b2_15 b2_16 b2_17r3 b2_18 b2_19r3 b4_0 b4_1 b4_2 b4_3 b4_4 b4_5 b4_6 b4_7 b4_8 b4_9 b4_10 b4_11 b4_12 b4_13 b4_14 b4_15 b4_16 b4_17 b4_18 b4_19 sg =
  (ob (dBin .lss t20 t19) fun d1 =>
  oif d1
   (ob (arrIdx 0 t18r3 t20) fun n2 =>
   ob (sgArr sg 0) fun r3 =>
   ob (r3.2[n2]?) fun d4 =>
   og (r3.1 == 3) <|
   ob (R.p F_term_put [(.agg [(proj 0 d4), (proj 1 d4), (proj 2 d4)]), t1]) fun d5 =>
   ob (arrIdx 0 b2_17r3 t20) fun n6 =>
   ob (sgArr sg 0) fun r7 =>
   ob (r7.2[n6]?) fun u8 =>
   og (isAggN 3 d5) <|
   og (r7.1 == 3) <|
   ob (dBin .add t20 (.int .i64 1)) fun d9 =>
   P_term_types_3h R t1 t18r3 t19 d9 b2_0 b2_1 b2_2 b2_3 b2_4 b2_5 b2_6 b2_7 b2_8 b2_9 b2_10 b2_11 b2_12 b2_13 b2_14 b2_15 b2_16 b2_17r3 b2_18 b2_19r3 b4_0 b4_1 b4_2 b4_3 b4_4 b4_5 b4_6 b4_7 b4_8 b4_9 b4_10 b4_11 b4_12 b4_13 b4_14 b4_15 b4_16 b4_17 b4_18 b4_19 (sg.set 0 (.arr 3 (r7.2.set n6 d5))))
   (P_term_types_8h R t1 b2_19r3 (.int .i64 b2_19r3) (.int .i64 0) b2_0 b2_1 b2_2 b2_3 b2_4 b2_5 b2_6 b2_7 b2_8 b2_9 b2_10 b2_11 b2_12 b2_13 b2_14 b2_15 b2_16 b2_17r3 b2_18 b2_19r3 b4_0 b4_1 b4_2 b4_3 b4_4 b4_5 b4_6 b4_7 b4_8 b4_9 b4_10 b4_11 b4_12 b4_13 b4_14 b4_15 b4_16 b4_17 b4_18 b4_19 sg)) := headP_of [14] (by kernel_rfl)
theorem eq_term_types_8h (R : Orc) (t1 : DV) (t34r3 : Nat) (t35 : DV) (t36 : DV) (b2_0 : DV) (b2_1 : DV) (b2_2 : DV) (b2_3 : DV) (b2_4 : DV) (b2_5 : DV) (b2_6 : DV) (b2_7 : DV) (b2_8 : DV) (b2_9 : DV) (b2_10 : DV) (b2_11 : DV) (b2_12 : DV) (b2_13 : DV) (b2_14 : DV) (b2_15 : DV) (b2_16 : DV) (b2_17r3 : Nat) (b2_18 : DV) (b2_19r3 : Nat) (b4_0 : DV) (b4_1 : DV) (b4_2 : DV) (b4_3 : DV) (b4_4 : DV) (b4_5 : DV) (b4_6 : DV) (b4_7 : DV) (b4_8 : DV) (b4_9 : DV) (b4_10 : DV) (b4_11 : DV) (b4_12 : DV) (b4_13 : DV) (b4_14 : DV) (b4_15 : DV) (b4_16 : DV) (b4_17 : DV) (b4_18 : DV) (b4_19 : DV) (sg : List SObj) : P_term_types_8h R t1 t34r3 t35 t36 b2_0 b2_1 b2_2 b2_3 b2_4 b2_5 b2_6 b2_7 b2_8 b2_9 b2_10 b2_11 b2_12 b2_13 b2_14 b2_15 b2_16 b2_17r3 b2_18 b2_19r3 b4_0 b4_1 b4_2 b4_3 b4_4 b4_5 b4_6 b4_7 b4_8 b4_9 b4_10 b4_11 b4_12 b4_13 b4_14 b4_15 b4_16 b4_17 b4_18 b4_19 sg =
  (ob (dBin .lss t36 t35) fun d1 =>
  oif d1
   (ob (arrIdx 0 t34r3 t36) fun n2 =>
   ob (sgArr sg 1) fun r3 =>
   ob (r3.2[n2]?) fun d4 =>
   og (r3.1 == 20) <|
   ob (R.p F_term_outside [(.agg [b2_0, b2_1, b2_2, b2_3, b2_4, b2_5, b2_6, b2_7, b2_8, b2_9, b2_10, b2_11, b2_12, b2_13, b2_14, b2_15, b2_16, .undef, b2_18, .undef]), t36, t1]) fun d5 =>
   ob (R.p F_term_types [(.agg [(proj 0 d4), (proj 1 d4), (proj 2 d4), (proj 3 d4), (proj 4 d4), (proj 5 d4), (proj 6 d4), (proj 7 d4), (proj 8 d4), (proj 9 d4), (proj 10 d4), (proj 11 d4), (proj 12 d4), (proj 13 d4), (proj 14 d4), (proj 15 d4), (proj 16 d4), (proj 17 d4), (proj 18 d4), (proj 19 d4)]), d5]) fun d6 =>
   ob (arrIdx 0 b2_19r3 t36) fun n7 =>
   ob (sgArr sg 1) fun r8 =>
   ob (r8.2[n7]?) fun u9 =>
   og (isAggN 20 d6) <|
   og (r8.1 == 20) <|
   ob (dBin .add t36 (.int .i64 1)) fun d10 =>
   P_term_types_8h R t1 t34r3 t35 d10 b2_0 b2_1 b2_2 b2_3 b2_4 b2_5 b2_6 b2_7 b2_8 b2_9 b2_10 b2_11 b2_12 b2_13 b2_14 b2_15 b2_16 b2_17r3 b2_18 b2_19r3 b4_0 b4_1 b4_2 b4_3 b4_4 b4_5 b4_6 b4_7 b4_8 b4_9 b4_10 b4_11 b4_12 b4_13 b4_14 b4_15 b4_16 b4_17 b4_18 b4_19 (sg.set 1 (.arr 20 (r8.2.set n7 d6))))
   (ob (dBin .eql b2_0 (.int .i64 12)) fun d11 =>
   oif d11
    (ob (R.p F_term_outside [(.agg [b2_0, b2_1, b2_2, b2_3, b2_4, b2_5, b2_6, b2_7, b2_8, b2_9, b2_10, b2_11, b2_12, b2_13, b2_14, b2_15, b2_16, .undef, b2_18, .undef]), (.int .i64 0), t1]) fun d12 =>
    P_term_types_14 R d12 b2_0 b2_1 b2_2 b2_3 b2_4 b2_5 b2_6 b2_7 b2_8 b2_9 b2_10 b2_11 b2_12 b2_13 b2_14 b2_15 b2_16 b2_17r3 b2_18 b2_19r3 b4_0 b4_1 b4_2 b4_3 b4_4 b4_5 b4_6 b4_7 b4_8 b4_9 b4_10 b4_11 b4_12 b4_13 b4_14 b4_15 b4_16 b4_17 b4_18 b4_19 sg)
    (P_term_types_14 R t1 b2_0 b2_1 b2_2 b2_3 b2_4 b2_5 b2_6 b2_7 b2_8 b2_9 b2_10 b2_11 b2_12 b2_13 b2_14 b2_15 b2_16 b2_17r3 b2_18 b2_19r3 b4_0 b4_1 b4_2 b4_3 b4_4 b4_5 b4_6 b4_7 b4_8 b4_9 b4_10 b4_11 b4_12 b4_13 b4_14 b4_15 b4_16 b4_17 b4_18 b4_19 sg))) := headP_of [14] (by kernel_rfl)
theorem eq_term_types_14 (R : Orc) (t1 : DV) (b2_0 : DV) (b2_1 : DV) (b2_2 : DV) (b2_3 : DV) (b2_4 : DV) (b2_5 : DV) (b2_6 : DV) (b2_7 : DV) (b2_8 : DV) (b2_9 : DV) (b2_10 : DV) (b2_11 : DV) (b2_12 : DV) (b2_13 : DV) (b2_14 : DV) (b2_15 : DV) (b2_16 : DV) (b2_17r3 : Nat) (b2_18 : DV) (b2_19r3 : Nat) (b4_0 : DV) (b4_1 : DV) (b4_2 : DV) (b4_3 : DV) (b4_4 : DV) (b4_5 : DV) (b4_6 : DV) (b4_7 : DV) (b4_8 : DV) (b4_9 : DV) (b4_10 : DV) (b4_11 : DV) (b4_12 : DV) (b4_13 : DV) (b4_14 : DV) (b4_15 : DV) (b4_16 : DV) (b4_17 : DV) (b4_18 : DV) (b4_19 : DV) (sg : List SObj) : P_term_types_14 R t1 b2_0 b2_1 b2_2 b2_3 b2_4 b2_5 b2_6 b2_7 b2_8 b2_9 b2_10 b2_11 b2_12 b2_13 b2_14 b2_15 b2_16 b2_17r3 b2_18 b2_19r3 b4_0 b4_1 b4_2 b4_3 b4_4 b4_5 b4_6 b4_7 b4_8 b4_9 b4_10 b4_11 b4_12 b4_13 b4_14 b4_15 b4_16 b4_17 b4_18 b4_19 sg =
  (ob (R.p F_term_put [(.agg [b2_11, b2_12, b2_13]), t1]) fun d1 =>
  ob (R.p F_term_put [(.agg [b2_14, b2_15, b2_16]), t1]) fun d2 =>
  og (isAggN 3 d1) <|
  og (isAggN 3 d2) <|
  retL [ob (sealCells sg [(b2_0, .val), (b2_1, .val), (b2_2, .val), (b2_3, .val), (b2_4, .val), (b2_5, .val), (b2_6, .val), (b2_7, .val), (b2_8, .val), (b2_9, .val), (b2_10, .val), ((proj 0 d1), .val), ((proj 1 d1), .val), ((proj 2 d1), .val), ((proj 0 d2), .val), ((proj 1 d2), .val), ((proj 2 d2), .val), (.undef, (.arr 0 3 0 b2_17r3)), (b2_18, .val), (.undef, (.arr 1 20 0 b2_19r3))]) fun ds => some (.agg ds)]) := evP_of [14] (by kernel_rfl)
theorem fix_term_types (x0 : DV) (x1 : DV) : (run cfg).p F_term_types [x0, x1] = P_term_types (run cfg) x0 x1 :=
  (fix_pure (C := cfg) (f := F_term_types) (fn := Try.f48) (c := code_term_types) (by kernel_rfl) Try.func48 (by kernel_rfl)).trans (by kernel_rfl)
theorem call_term_types (x0 : DV) (x1 : DV) {d : DV} (h : P_term_types (run cfg) x0 x1 = some d) : (run cfg).p F_term_types [x0, x1] = some d := (fix_term_types x0 x1).trans h

noncomputable def code_slices_Contains__string_string : Code := Try.f50.body.getD .skip
noncomputable def P_slices_Contains__string_string (R : Orc) (x0 : DV) (x1 : DV) : Option DV := evP cfg R fl_slices_Contains__string_string (retP cfg.P Try.f50) [] code_slices_Contains__string_string (initSt Try.f50 [(x0, .val), (x1, .val)] [])
theorem eq_slices_Contains__string_string (R : Orc) (x0 : DV) (x1 : DV) : P_slices_Contains__string_string R x0 x1 =
  (ob (R.p F_slices_Index__string_string [x0, x1]) fun d1 =>
  ob (dBin .geq d1 (.int .i64 0)) fun d2 =>
  some d2) := evP_of [] (by kernel_rfl)
theorem fix_slices_Contains__string_string (x0 : DV) (x1 : DV) : (run cfg).p F_slices_Contains__string_string [x0, x1] = P_slices_Contains__string_string (run cfg) x0 x1 :=
  (fix_pure (C := cfg) (f := F_slices_Contains__string_string) (fn := Try.f50) (c := code_slices_Contains__string_string) (by kernel_rfl) Try.func50 (by kernel_rfl)).trans (by kernel_rfl)
theorem call_slices_Contains__string_string (x0 : DV) (x1 : DV) {d : DV} (h : P_slices_Contains__string_string (run cfg) x0 x1 = some d) : (run cfg).p F_slices_Contains__string_string [x0, x1] = some d := (fix_slices_Contains__string_string x0 x1).trans h

noncomputable def code_term_patNames : Code := Try.f51.body.getD .skip
noncomputable def P_term_patNames (R : Orc) (x0 : DV) (x1 : DV) (sg : List SObj) : Option (List DV × List SObj) := evP cfg R fl_term_patNames (retR cfg.P Try.f51 sig_term_patNames) [] code_term_patNames (initSt Try.f51 [(x0, .val), (x1, .own)] sg)
noncomputable def P_term_patNames_4h (R : Orc) (t1 : DV) (t16 : DV) (t17 : DV) (t18 : DV) (sg : List SObj) : Option (List DV × List SObj) := headP cfg R fl_term_patNames (retR cfg.P Try.f51 sig_term_patNames) [true, true, false, true, false] code_term_patNames ⟨spread .undef 27 0 [(1, t1), (16, t16), (17, t17), (18, t18)], spread .val 27 0 [(1, .own)], spread none 27 0 [], sg⟩
theorem eq_term_patNames (R : Orc) (x0 : DV) (x1 : DV) (sg : List SObj) : P_term_patNames R x0 x1 sg =
  (og (isAggN 7 x0) <|
  ob (dBin .eql (proj 0 x0) (.int .i64 2)) fun d1 =>
  oif d1
   (og (isCell (proj 3 x0)) <|
   ob (dApp 1 x1 (.list 1 [(proj 3 x0)])) fun d2 =>
   ob (dLen (proj 6 x0)) fun d3 =>
   P_term_patNames_4h R d2 (proj 6 x0) d3 (.int .i64 0) sg)
   (ob (dLen (proj 6 x0)) fun d4 =>
   P_term_patNames_4h R x1 (proj 6 x0) d4 (.int .i64 0) sg)) := evP_of [] (by kernel_rfl)
theorem eq_term_patNames_4h (R : Orc) (t1 : DV) (t16 : DV) (t17 : DV) (t18 : DV) (sg : List SObj) : P_term_patNames_4h R t1 t16 t17 t18 sg =
  (ob (dBin .lss t18 t17) fun d1 =>
  oif d1
   (ob (dIdx 7 t16 t18) fun d2 =>
   ob (R.r F_term_patNames [((.agg [(proj 0 d2), (proj 1 d2), (proj 2 d2), (proj 3 d2), (proj 4 d2), (proj 5 d2), (proj 6 d2)]), .val), (t1, .own)] sg) fun q3 =>
   ob (dBin .add t18 (.int .i64 1)) fun d4 =>
   P_term_patNames_4h R (q3.1.getD 0 .undef) t16 t17 d4 q3.2)
   (some ([t1], sg))) := headP_of [] (by kernel_rfl)
theorem fix_term_patNames (x0 : DV) (x1 : DV) (sg : List SObj) : (run cfg).r F_term_patNames [(x0, .val), (x1, .own)] sg = P_term_patNames (run cfg) x0 x1 sg :=
  (fix_raw (C := cfg) (f := F_term_patNames) (s := sig_term_patNames) (fn := Try.f51) (c := code_term_patNames) (by kernel_rfl) Try.func51 (by kernel_rfl)).trans (by kernel_rfl)
theorem call_term_patNames (x0 : DV) (x1 : DV) (sg : List SObj) {q : List DV × List SObj} (h : P_term_patNames (run cfg) x0 x1 sg = some q) : (run cfg).r F_term_patNames [(x0, .val), (x1, .own)] sg = some q := (fix_term_patNames x0 x1 sg).trans h

noncomputable def code_r03_In : Code := Try.f63.body.getD .skip
noncomputable def P_r03_In (R : Orc) (x0 : DV) (x1 : DV) : Option DV := evP cfg R fl_r03_In (retP cfg.P Try.f63) [] code_r03_In (initSt Try.f63 [(x0, .val), (x1, .val)] [])
noncomputable def P_r03_In_2h (R : Orc) (t0 : DV) (t1 : DV) (t5 : DV) : Option DV := headP cfg R fl_r03_In (retP cfg.P Try.f63) [true, false, true, false] code_r03_In ⟨spread .undef 18 0 [(0, t0), (1, t1), (5, t5)], spread .val 18 0 [], spread none 18 0 [], []⟩
theorem eq_r03_In (R : Orc) (x0 : DV) (x1 : DV) : P_r03_In R x0 x1 =
  (P_r03_In_2h R x0 x1 (.int .i64 0)) := evP_of [] (by kernel_rfl)
theorem eq_r03_In_2h (R : Orc) (t0 : DV) (t1 : DV) (t5 : DV) : P_r03_In_2h R t0 t1 t5 =
  (ob (dLen t0) fun d1 =>
  ob (dBin .lss t5 d1) fun d2 =>
  oif d2
   (ob (dIdx 1 t0 t5) fun d3 =>
   og (isLeaf d3) <|
   ob (dBin .eql d3 t1) fun d4 =>
   oif d4
    (some (.bool true))
    (ob (dBin .add t5 (.int .i64 1)) fun d5 =>
    P_r03_In_2h R t0 t1 d5))
   (some (.bool false))) := headP_of [] (by kernel_rfl)
theorem fix_r03_In (x0 : DV) (x1 : DV) : (run cfg).p F_r03_In [x0, x1] = P_r03_In (run cfg) x0 x1 :=
  (fix_pure (C := cfg) (f := F_r03_In) (fn := Try.f63) (c := code_r03_In) (by kernel_rfl) Try.func63 (by kernel_rfl)).trans (by kernel_rfl)
theorem call_r03_In (x0 : DV) (x1 : DV) {d : DV} (h : P_r03_In (run cfg) x0 x1 = some d) : (run cfg).p F_r03_In [x0, x1] = some d := (fix_r03_In x0 x1).trans h

noncomputable def code_typ_Check : Code := Try.f64.body.getD .skip
noncomputable def P_typ_Check (R : Orc) (x0 : DV) : Option DV := evP cfg R fl_typ_Check (retP cfg.P Try.f64) [] code_typ_Check (initSt Try.f64 [(x0, .val)] [])
theorem eq_typ_Check (R : Orc) (x0 : DV) : P_typ_Check R x0 =
  (og (isAggN 3 x0) <|
  ob (R.p F_typ_right [(.agg [(proj 0 x0), (proj 1 x0), (proj 2 x0)])]) fun d1 =>
  ob (dUn .not d1) fun d2 =>
  oif d2
   (some (.int .i64 1))
   (some (.int .i64 0))) := evP_of [] (by kernel_rfl)
theorem fix_typ_Check (x0 : DV) : (run cfg).p F_typ_Check [x0] = P_typ_Check (run cfg) x0 :=
  (fix_pure (C := cfg) (f := F_typ_Check) (fn := Try.f64) (c := code_typ_Check) (by kernel_rfl) Try.func64 (by kernel_rfl)).trans (by kernel_rfl)
theorem call_typ_Check (x0 : DV) {d : DV} (h : P_typ_Check (run cfg) x0 = some d) : (run cfg).p F_typ_Check [x0] = some d := (fix_typ_Check x0).trans h

noncomputable def code_term_none : Code := Try.f65.body.getD .skip
noncomputable def P_term_none (R : Orc) (x0 : DV) : Option DV := evP cfg R fl_term_none (retP cfg.P Try.f65) [] code_term_none (initSt Try.f65 [(x0, .val)] [])
theorem eq_term_none (R : Orc) (x0 : DV) : P_term_none R x0 =
  (og (isAggN 3 x0) <|
  ob (dBin .eql (proj 0 x0) (.int .i64 0)) fun d1 =>
  ogd d1
   (ob (dBin .eql (proj 1 x0) (.int .i64 0)) fun d2 =>
   ogd d2
    (ob (dLen (proj 2 x0)) fun d3 =>
    ob (dBin .eql d3 (.int .i64 0)) fun d4 =>
    some d4)
    (some (.bool false))
    none)
   (some (.bool false))
   none) := evP_of [] (by kernel_rfl)
theorem fix_term_none (x0 : DV) : (run cfg).p F_term_none [x0] = P_term_none (run cfg) x0 :=
  (fix_pure (C := cfg) (f := F_term_none) (fn := Try.f65) (c := code_term_none) (by kernel_rfl) Try.func65 (by kernel_rfl)).trans (by kernel_rfl)
theorem call_term_none (x0 : DV) {d : DV} (h : P_term_none (run cfg) x0 = some d) : (run cfg).p F_term_none [x0] = some d := (fix_term_none x0).trans h

end Go.Su

/-
  Equations of the program's functions: by program.
-/
namespace Go.Su
open Go.Proofs
set_option linter.unusedVariables false

noncomputable def code_tree_CheckPat : Code := Try.f66.body.getD .skip
noncomputable def P_tree_CheckPat (R : Orc) (x0 : DV) : Option DV := evP cfg R fl_tree_CheckPat (retP cfg.P Try.f66) [] code_tree_CheckPat (initSt Try.f66 [(x0, .val)] [])
noncomputable def P_tree_CheckPat_r0 (R : Orc) (t0 : DV) (t6 : DV) (sg : List SObj) : Option DV := evP cfg R fl_tree_CheckPat (retP cfg.P Try.f66) [true, true, false, true, false] code_tree_CheckPat ⟨spread .undef 32 0 [(0, t0), (4, (.tup [])), (6, t6), (8, (.tup [])), (9, (.tup [])), (10, (.tup [])), (11, (.tup [])), (12, (.tup [])), (13, (.tup [])), (14, (.tup [])), (15, (.tup [])), (16, (.tup [])), (17, (.tup [])), (18, (.tup [])), (19, (.tup [])), (20, (.tup [])), (21, (.tup [])), (22, (.tup [])), (23, (.tup [])), (24, (.tup [])), (25, (.tup [])), (26, (.tup [])), (27, (.tup [])), (28, (.tup [])), (29, (.tup [])), (30, (.tup [])), (31, (.tup []))], spread .val 32 0 [(1, (.ptr 0 0)), (2, (.ptr 1 0)), (3, (.ptr 3 0)), (5, (.map 2)), (7, (.fn 87 [(4, 0)]))], spread none 32 0 [], sg⟩
noncomputable def rcode_tree_CheckPat_r0 : Code := match (sub [true, true, false, true, false] code_tree_CheckPat []).1 with
  | .rangeFunc _ _ a b => .seq a b
  | c => c
noncomputable def X_tree_CheckPat_r0 (R : Orc) (t0 : DV) (t6 : DV) (o : Out) (sg : List SObj) : Option DV := konP cfg R fl_tree_CheckPat (retP cfg.P Try.f66) [true, true, false, true, false] code_tree_CheckPat o (outerSt ⟨spread .undef 32 0 [(0, t0), (4, (.tup [])), (6, t6), (8, (.tup [])), (9, (.tup [])), (10, (.tup [])), (11, (.tup [])), (12, (.tup [])), (13, (.tup [])), (14, (.tup [])), (15, (.tup [])), (16, (.tup [])), (17, (.tup [])), (18, (.tup [])), (19, (.tup [])), (20, (.tup [])), (21, (.tup [])), (22, (.tup [])), (23, (.tup [])), (24, (.tup [])), (25, (.tup [])), (26, (.tup [])), (27, (.tup [])), (28, (.tup [])), (29, (.tup [])), (30, (.tup [])), (31, (.tup []))], spread .val 32 0 [(1, (.ptr 0 0)), (2, (.ptr 1 0)), (3, (.ptr 3 0)), (5, (.map 2)), (7, (.fn 87 [(4, 0)]))], spread none 32 0 [], []⟩ sg)
noncomputable def B_tree_CheckPat_r0 (R : Orc) (t0 : DV) (t6 : DV) (I : List SObj → Option DV) (x : DV) (sg : List SObj) : Option DV := evP cfg R fl_tree_CheckPat (kr I (X_tree_CheckPat_r0 R t0 t6)) [] rcode_tree_CheckPat_r0 ⟨spread .undef 32 0 [(8, x)], spread .val 32 0 [(2, (.ptr 1 0)), (3, (.ptr 3 0))], spread none 32 0 [], sg⟩
noncomputable def I_tree_CheckPat_r0 (R : Orc) (t0 : DV) (t6 : DV) : List DV → List SObj → Option DV := foldIt (fun x I sg => B_tree_CheckPat_r0 R t0 t6 I x sg) (X_tree_CheckPat_r0 R t0 t6 .normal)
noncomputable def P_tree_CheckPat_6 (R : Orc) (t0 : DV) (t6 : DV) (I : List SObj → Option DV) (b4 : DV) (sg : List SObj) : Option DV := evP cfg R fl_tree_CheckPat (kr I (X_tree_CheckPat_r0 R t0 t6)) [true, false, true] rcode_tree_CheckPat_r0 ⟨spread .undef 32 0 [], spread .val 32 0 [(3, (.ptr 3 0)), (4, (.loc 4 0))], spread none 32 0 [(4, some [((proj 0 b4), .val), ((proj 1 b4), .val), ((proj 2 b4), .val), ((proj 3 b4), .val), ((proj 4 b4), .val), ((proj 5 b4), .val), ((proj 6 b4), .val)])], sg⟩
theorem eq_tree_CheckPat (R : Orc) (x0 : DV) : P_tree_CheckPat R x0 =
  (og (isAggN 7 x0) <|
  P_tree_CheckPat_r0 R x0 (.agg [(proj 0 x0), (proj 1 x0), (proj 2 x0), (proj 3 x0), (proj 4 x0), (proj 5 x0), (proj 6 x0)]) [SObj.box [((proj 0 x0), .val), ((proj 1 x0), .val), ((proj 2 x0), .val), ((proj 3 x0), .val), ((proj 4 x0), .val), ((proj 5 x0), .val), ((proj 6 x0), .val)], SObj.box [((.int .i64 0), .val)], .map true [], SObj.box [(.undef, (.map 2))], SObj.box [((proj 0 x0), .val), ((proj 1 x0), .val), ((proj 2 x0), .val), ((proj 3 x0), .val), ((proj 4 x0), .val), ((proj 5 x0), .val), ((proj 6 x0), .val)]]) := evP_of [6] (by kernel_rfl)
theorem eq_tree_CheckPat_r0 (R : Orc) (t0 : DV) (t6 : DV) (sg : List SObj) : P_tree_CheckPat_r0 R t0 t6 sg =
  ob (sgBox sg 4) fun cs => ob (allDat cs) fun cd => ob (flatD 7 6 cd) fun ds => I_tree_CheckPat_r0 R t0 t6 ds (sg.set 4 (.arr 1 [])) :=
  (rangeP2 (t := 7) (f := 87) (i := 4) (q := 8) (it := flatD 7 6) (by kernel_rfl) (by kernel_rfl) (by kernel_rfl) (by kernel_rfl)).trans (by kernel_rfl)
theorem I_tree_CheckPat_r0_nil (R : Orc) (t0 : DV) (t6 : DV) (sg : List SObj) : I_tree_CheckPat_r0 R t0 t6 [] sg = X_tree_CheckPat_r0 R t0 t6 .normal sg := rfl
theorem I_tree_CheckPat_r0_cons (R : Orc) (t0 : DV) (t6 : DV) (x : DV) (ds : List DV) (sg : List SObj) : I_tree_CheckPat_r0 R t0 t6 (x :: ds) sg = B_tree_CheckPat_r0 R t0 t6 (I_tree_CheckPat_r0 R t0 t6 ds) x sg := rfl
theorem eq_B_tree_CheckPat_r0 (R : Orc) (t0 : DV) (t6 : DV) (I : List SObj → Option DV) (x : DV) (sg : List SObj) : B_tree_CheckPat_r0 R t0 t6 I x sg =
  (og (isAggN 7 x) <|
  ob (R.p F_tree_onePat [(.agg [(proj 0 x), (proj 1 x), (proj 2 x), (proj 3 x), (proj 4 x), (proj 5 x), (proj 6 x)])]) fun d1 =>
  ob (dUn .not d1) fun d2 =>
  ogd d2
   (ob (sgBox sg 1) fun c3 =>
   ob (c3[0]?) fun u4 =>
   X_tree_CheckPat_r0 R t0 t6 .ret (sg.set 1 (SObj.box (c3.set 0 ((.int .i64 1), .val)))))
   (ob (dBin .eql (proj 0 x) (.int .i64 2)) fun d5 =>
   ogd d5
    (ob (sgBox sg 3) fun c6 =>
    ob (cellMap c6 0) fun i7 =>
    og (isKey true (proj 3 x) && true) <|
    ob (sgMap sg i7) fun m8 =>
    og (m8.1 == true) <|
    ob (dBin .gtr ((mGet m8.2 (proj 3 x)).getD (.int .i64 0)) (.int .i64 0)) fun d9 =>
    oif d9
     (ob (sgBox sg 1) fun c10 =>
     ob (c10[0]?) fun u11 =>
     X_tree_CheckPat_r0 R t0 t6 .ret (sg.set 1 (SObj.box (c10.set 0 ((.int .i64 1), .val)))))
     (P_tree_CheckPat_6 R t0 t6 I x sg))
    (P_tree_CheckPat_6 R t0 t6 I x sg)
    none)
   none) := evP_of [6] (by kernel_rfl)
theorem eq_X_tree_CheckPat_r0_normal (R : Orc) (t0 : DV) (t6 : DV) (sg : List SObj) : X_tree_CheckPat_r0 R t0 t6 .normal sg =
  (ob (sgBox sg 1) fun c1 =>
  ob (c1[0]?) fun u2 =>
  ret1 (ob (sgBox (sg.set 1 (SObj.box (c1.set 0 ((.int .i64 0), .val)))) 1) fun c => oneCell (sg.set 1 (SObj.box (c1.set 0 ((.int .i64 0), .val)))) c)) := konP_of [6] (by kernel_rfl)
theorem eq_X_tree_CheckPat_r0_ret (R : Orc) (t0 : DV) (t6 : DV) (sg : List SObj) : X_tree_CheckPat_r0 R t0 t6 .ret sg =
  (ret1 (ob (sgBox sg 1) fun c => oneCell sg c)) := konP_of [6] (by kernel_rfl)
theorem eq_tree_CheckPat_6 (R : Orc) (t0 : DV) (t6 : DV) (I : List SObj → Option DV) (b4 : DV) (sg : List SObj) : P_tree_CheckPat_6 R t0 t6 I b4 sg =
  (ob (dBin .eql (proj 0 b4) (.int .i64 2)) fun d1 =>
  oif d1
   (ob (sgBox sg 3) fun c2 =>
   ob (cellMap c2 0) fun i3 =>
   og (isKey true (proj 3 b4) && true) <|
   ob (sgMap sg i3) fun m4 =>
   og (m4.1 == true) <|
   ob (dBin .add ((mGet m4.2 (proj 3 b4)).getD (.int .i64 0)) (.int .i64 1)) fun d5 =>
   og (isKey true (proj 3 b4) && true && true) <|
   ob (sgMap sg i3) fun m6 =>
   og (m6.1 == true) <|
   I (sg.set i3 (.map true (mSet m6.2 (proj 3 b4) d5))))
   (I sg)) := evP_of [6] (by kernel_rfl)
theorem fix_tree_CheckPat (x0 : DV) : (run cfg).p F_tree_CheckPat [x0] = P_tree_CheckPat (run cfg) x0 :=
  (fix_pure (C := cfg) (f := F_tree_CheckPat) (fn := Try.f66) (c := code_tree_CheckPat) (by kernel_rfl) Try.func66 (by kernel_rfl)).trans (by kernel_rfl)
theorem call_tree_CheckPat (x0 : DV) {d : DV} (h : P_tree_CheckPat (run cfg) x0 = some d) : (run cfg).p F_tree_CheckPat [x0] = some d := (fix_tree_CheckPat x0).trans h

noncomputable def code_term_put : Code := Try.f68.body.getD .skip
noncomputable def P_term_put (R : Orc) (x0 : DV) (x1 : DV) : Option DV := evP cfg R fl_term_put (retP cfg.P Try.f68) [] code_term_put (initSt Try.f68 [(x0, .val), (x1, .val)] [])
theorem eq_term_put (R : Orc) (x0 : DV) (x1 : DV) : P_term_put R x0 x1 =
  (og (isAggN 3 x0) <|
  ob (dBin .eql (proj 0 x0) (.int .i64 0)) fun d1 =>
  oif d1
   (some (.agg [(proj 0 x0), (proj 1 x0), (proj 2 x0)]))
   (ob (R.p F_scheme_Subst [(.agg [(proj 0 x0), (proj 1 x0), (proj 2 x0)]), x1]) fun d2 =>
   ob (dExt 0 d2) fun d3 =>
   ob (dExt 1 d2) fun d4 =>
   og (isAggN 3 d3) <|
   some (.agg [(proj 0 d3), (proj 1 d3), (proj 2 d3)]))) := evP_of [] (by kernel_rfl)
theorem fix_term_put (x0 : DV) (x1 : DV) : (run cfg).p F_term_put [x0, x1] = P_term_put (run cfg) x0 x1 :=
  (fix_pure (C := cfg) (f := F_term_put) (fn := Try.f68) (c := code_term_put) (by kernel_rfl) Try.func68 (by kernel_rfl)).trans (by kernel_rfl)
theorem call_term_put (x0 : DV) (x1 : DV) {d : DV} (h : P_term_put (run cfg) x0 x1 = some d) : (run cfg).p F_term_put [x0, x1] = some d := (fix_term_put x0 x1).trans h

noncomputable def code_term_outside : Code := Try.f69.body.getD .skip
noncomputable def P_term_outside (R : Orc) (x0 : DV) (x1 : DV) (x2 : DV) : Option DV := evP cfg R fl_term_outside (retP cfg.P Try.f69) [] code_term_outside (initSt Try.f69 [(x0, .val), (x1, .val), (x2, .val)] [])
theorem eq_term_outside (R : Orc) (x0 : DV) (x1 : DV) (x2 : DV) : P_term_outside R x0 x1 x2 =
  (og (isAggN 20 x0) <|
  ob (dBin .gtr x1 (.int .i64 0)) fun d1 =>
  ogd d1
   (some x2)
   (ob (dLen (proj 10 x0)) fun d2 =>
   ob (dBin .eql d2 (.int .i64 0)) fun d3 =>
   oif d3
    (some x2)
    (ob (dList x2) fun p4 =>
    og (true && p4.1 == 4 && decide (p4.2.length ≤ lim)) <|
    ob (R.r F_slices_DeleteFunc__api_Bind_api_Bind [(.undef, (.arr 1 4 0 p4.2.length)), (.undef, (.fn 83 [(0, 0)]))] [SObj.box [((proj 0 x0), .val), ((proj 1 x0), .val), ((proj 2 x0), .val), ((proj 3 x0), .val), ((proj 4 x0), .val), ((proj 5 x0), .val), ((proj 6 x0), .val), ((proj 7 x0), .val), ((proj 8 x0), .val), ((proj 9 x0), .val), ((proj 10 x0), .val), ((proj 11 x0), .val), ((proj 12 x0), .val), ((proj 13 x0), .val), ((proj 14 x0), .val), ((proj 15 x0), .val), ((proj 16 x0), .val), ((proj 17 x0), .val), ((proj 18 x0), .val), ((proj 19 x0), .val)], .arr 4 p4.2]) fun q5 =>
    some (q5.1.getD 0 .undef)))
   none) := evP_of [] (by kernel_rfl)
theorem fix_term_outside (x0 : DV) (x1 : DV) (x2 : DV) : (run cfg).p F_term_outside [x0, x1, x2] = P_term_outside (run cfg) x0 x1 x2 :=
  (fix_pure (C := cfg) (f := F_term_outside) (fn := Try.f69) (c := code_term_outside) (by kernel_rfl) Try.func69 (by kernel_rfl)).trans (by kernel_rfl)
theorem call_term_outside (x0 : DV) (x1 : DV) (x2 : DV) {d : DV} (h : P_term_outside (run cfg) x0 x1 x2 = some d) : (run cfg).p F_term_outside [x0, x1, x2] = some d := (fix_term_outside x0 x1 x2).trans h

noncomputable def code_slices_Index__string_string : Code := Try.f70.body.getD .skip
noncomputable def P_slices_Index__string_string (R : Orc) (x0 : DV) (x1 : DV) : Option DV := evP cfg R fl_slices_Index__string_string (retP cfg.P Try.f70) [] code_slices_Index__string_string (initSt Try.f70 [(x0, .val), (x1, .val)] [])
noncomputable def P_slices_Index__string_string_2h (R : Orc) (t0 : DV) (t1 : DV) (t7 : DV) (t8 : DV) : Option DV := headP cfg R fl_slices_Index__string_string (retP cfg.P Try.f70) [true, false, true, false] code_slices_Index__string_string ⟨spread .undef 19 0 [(0, t0), (1, t1), (7, t7), (8, t8)], spread .val 19 0 [], spread none 19 0 [], []⟩
theorem eq_slices_Index__string_string (R : Orc) (x0 : DV) (x1 : DV) : P_slices_Index__string_string R x0 x1 =
  (ob (dLen x0) fun d1 =>
  P_slices_Index__string_string_2h R x0 x1 d1 (.int .i64 0)) := evP_of [] (by kernel_rfl)
theorem eq_slices_Index__string_string_2h (R : Orc) (t0 : DV) (t1 : DV) (t7 : DV) (t8 : DV) : P_slices_Index__string_string_2h R t0 t1 t7 t8 =
  (ob (dBin .lss t8 t7) fun d1 =>
  oif d1
   (ob (dIdx 1 t0 t8) fun d2 =>
   og (isLeaf d2) <|
   ob (dBin .eql t1 d2) fun d3 =>
   oif d3
    (some t8)
    (ob (dBin .add t8 (.int .i64 1)) fun d4 =>
    P_slices_Index__string_string_2h R t0 t1 t7 d4))
   (some (.int .i64 (-1)))) := headP_of [] (by kernel_rfl)
theorem fix_slices_Index__string_string (x0 : DV) (x1 : DV) : (run cfg).p F_slices_Index__string_string [x0, x1] = P_slices_Index__string_string (run cfg) x0 x1 :=
  (fix_pure (C := cfg) (f := F_slices_Index__string_string) (fn := Try.f70) (c := code_slices_Index__string_string) (by kernel_rfl) Try.func70 (by kernel_rfl)).trans (by kernel_rfl)
theorem call_slices_Index__string_string (x0 : DV) (x1 : DV) {d : DV} (h : P_slices_Index__string_string (run cfg) x0 x1 = some d) : (run cfg).p F_slices_Index__string_string [x0, x1] = some d := (fix_slices_Index__string_string x0 x1).trans h

noncomputable def code_typ_right : Code := Try.f77.body.getD .skip
noncomputable def P_typ_right (R : Orc) (x0 : DV) : Option DV := evP cfg R fl_typ_right (retP cfg.P Try.f77) [] code_typ_right (initSt Try.f77 [(x0, .val)] [])
noncomputable def P_typ_right_9h (R : Orc) (t33 : DV) (t34 : DV) (t35 : DV) : Option DV := headP cfg R fl_typ_right (retP cfg.P Try.f77) [true, true, true, true, false, true, false] code_typ_right ⟨spread .undef 43 0 [(33, t33), (34, t34), (35, t35)], spread .val 43 0 [], spread none 43 0 [], []⟩
theorem eq_typ_right (R : Orc) (x0 : DV) : P_typ_right R x0 =
  (og (isAggN 3 x0) <|
  ob (R.p F_typ_arity [(proj 0 x0)]) fun d1 =>
  ob (dBin .lss d1 (.int .i64 0)) fun d2 =>
  ogd d2
   (some (.bool false))
   (ob (dLen (proj 2 x0)) fun d3 =>
   ob (dBin .neq d3 d1) fun d4 =>
   oif d4
    (some (.bool false))
    (ob (dBin .eql (proj 0 x0) (.int .i64 6)) fun d5 =>
    oif d5
     (ob (dBin .geq (proj 1 x0) (.int .i64 0)) fun d6 =>
     ogd d6
      (ob (dBin .leq (proj 1 x0) (.int .i64 1048576)) fun d7 =>
      some d7)
      (some (.bool false))
      none)
     (ob (dBin .neq (proj 1 x0) (.int .i64 0)) fun d8 =>
     oif d8
      (some (.bool false))
      (ob (dLen (proj 2 x0)) fun d9 =>
      P_typ_right_9h R (proj 2 x0) d9 (.int .i64 0)))))
   none) := evP_of [] (by kernel_rfl)
theorem eq_typ_right_9h (R : Orc) (t33 : DV) (t34 : DV) (t35 : DV) : P_typ_right_9h R t33 t34 t35 =
  (ob (dBin .lss t35 t34) fun d1 =>
  oif d1
   (ob (dIdx 3 t33 t35) fun d2 =>
   ob (R.p F_typ_right [(.agg [(proj 0 d2), (proj 1 d2), (proj 2 d2)])]) fun d3 =>
   ob (dUn .not d3) fun d4 =>
   oif d4
    (some (.bool false))
    (ob (dBin .add t35 (.int .i64 1)) fun d5 =>
    P_typ_right_9h R t33 t34 d5))
   (some (.bool true))) := headP_of [] (by kernel_rfl)
theorem fix_typ_right (x0 : DV) : (run cfg).p F_typ_right [x0] = P_typ_right (run cfg) x0 :=
  (fix_pure (C := cfg) (f := F_typ_right) (fn := Try.f77) (c := code_typ_right) (by kernel_rfl) Try.func77 (by kernel_rfl)).trans (by kernel_rfl)
theorem call_typ_right (x0 : DV) {d : DV} (h : P_typ_right (run cfg) x0 = some d) : (run cfg).p F_typ_right [x0] = some d := (fix_typ_right x0).trans h

noncomputable def code_tree_onePat : Code := Try.f79.body.getD .skip
noncomputable def P_tree_onePat (R : Orc) (x0 : DV) : Option DV := evP cfg R fl_tree_onePat (retP cfg.P Try.f79) [] code_tree_onePat (initSt Try.f79 [(x0, .val)] [])
noncomputable def P_tree_onePat_24 (R : Orc) (t4 : DV) (b1 : DV) (b3_0 : DV) (b3_1 : DV) (b3_2 : DV) (b3_3 : DV) (b3_4 : DV) (b3_5 : DV) (b3_6 : DV) : Option DV := evP cfg R fl_tree_onePat (retP cfg.P Try.f79) [true, true, true] code_tree_onePat ⟨spread .undef 83 0 [(4, t4)], spread .val 83 0 [(1, (.loc 1 0)), (3, (.loc 3 0))], spread none 83 0 [(1, some [((proj 0 b1), .val), ((proj 1 b1), .val), ((proj 2 b1), .val), ((proj 3 b1), .val), ((proj 4 b1), .val), ((proj 5 b1), .val), ((proj 6 b1), .val)]), (3, some [(b3_0, .val), (b3_1, .val), (b3_2, .val), (b3_3, .val), (b3_4, .val), (b3_5, .val), (b3_6, .val)])], []⟩
set_option maxRecDepth 100000 in
theorem eq_tree_onePat (R : Orc) (x0 : DV) : P_tree_onePat R x0 =
  (og (isAggN 7 x0) <|
  og (isCell (proj 0 x0)) <|
  og (isCell (proj 6 x0)) <|
  ob (dBin .eql (proj 0 x0) (.int .i64 1)) fun d1 =>
  oif d1
   (P_tree_onePat_24 R (.int .i64 0) x0 (proj 0 x0) (proj 1 x0) (proj 2 x0) (.str ⟨#[]⟩) (.int .i64 0) (.str ⟨#[]⟩) (proj 6 x0))
   (ob (dBin .eql (proj 0 x0) (.int .i64 6)) fun d2 =>
   oif d2
    (P_tree_onePat_24 R (.int .i64 0) x0 (proj 0 x0) (proj 1 x0) (proj 2 x0) (.str ⟨#[]⟩) (.int .i64 0) (.str ⟨#[]⟩) (proj 6 x0))
    (ob (dBin .eql (proj 0 x0) (.int .i64 8)) fun d3 =>
    oif d3
     (P_tree_onePat_24 R (.int .i64 0) x0 (proj 0 x0) (proj 1 x0) (proj 2 x0) (.str ⟨#[]⟩) (.int .i64 0) (.str ⟨#[]⟩) (proj 6 x0))
     (ob (dBin .eql (proj 0 x0) (.int .i64 2)) fun d4 =>
     oif d4
      (og (isCell (proj 3 x0)) <|
      ob (R.p F_word_Name [(proj 3 x0)]) fun d5 =>
      ob (dUn .not d5) fun d6 =>
      oif d6
       (some (.bool false))
       (P_tree_onePat_24 R (.int .i64 0) x0 (proj 0 x0) (proj 1 x0) (proj 2 x0) (proj 3 x0) (.int .i64 0) (.str ⟨#[]⟩) (proj 6 x0)))
      (ob (dBin .eql (proj 0 x0) (.int .i64 3)) fun d7 =>
      oif d7
       (og (isCell (proj 4 x0)) <|
       P_tree_onePat_24 R (.int .i64 0) x0 (proj 0 x0) (proj 1 x0) (proj 2 x0) (.str ⟨#[]⟩) (proj 4 x0) (.str ⟨#[]⟩) (proj 6 x0))
       (ob (dBin .eql (proj 0 x0) (.int .i64 4)) fun d8 =>
       oif d8
        (og (isCell (proj 4 x0)) <|
        ob (dBin .neq (proj 4 x0) (.int .i64 0)) fun d9 =>
        ogd d9
         (ob (dBin .neq (proj 4 x0) (.int .i64 1)) fun d10 =>
         oif d10
          (some (.bool false))
          (P_tree_onePat_24 R (.int .i64 0) x0 (proj 0 x0) (proj 1 x0) (proj 2 x0) (.str ⟨#[]⟩) (proj 4 x0) (.str ⟨#[]⟩) (proj 6 x0)))
         (P_tree_onePat_24 R (.int .i64 0) x0 (proj 0 x0) (proj 1 x0) (proj 2 x0) (.str ⟨#[]⟩) (proj 4 x0) (.str ⟨#[]⟩) (proj 6 x0))
         none)
        (ob (dBin .eql (proj 0 x0) (.int .i64 5)) fun d11 =>
        oif d11
         (og (isCell (proj 5 x0)) <|
         ob (dLenS (proj 5 x0)) fun d12 =>
         ob (dBin .gtr d12 (.int .i64 200)) fun d13 =>
         oif d13
          (some (.bool false))
          (P_tree_onePat_24 R (.int .i64 0) x0 (proj 0 x0) (proj 1 x0) (proj 2 x0) (.str ⟨#[]⟩) (.int .i64 0) (proj 5 x0) (proj 6 x0)))
         (ob (dBin .eql (proj 0 x0) (.int .i64 7)) fun d14 =>
         oif d14
          (P_tree_onePat_24 R (.int .i64 2) x0 (proj 0 x0) (proj 1 x0) (proj 2 x0) (.str ⟨#[]⟩) (.int .i64 0) (.str ⟨#[]⟩) (proj 6 x0))
          (ob (dBin .eql (proj 0 x0) (.int .i64 9)) fun d15 =>
          oif d15
           (P_tree_onePat_24 R (.int .i64 2) x0 (proj 0 x0) (proj 1 x0) (proj 2 x0) (.str ⟨#[]⟩) (.int .i64 0) (.str ⟨#[]⟩) (proj 6 x0))
           (some (.bool false))))))))))) := evP_of [24] (by kernel_rfl)
set_option maxRecDepth 100000 in
theorem eq_tree_onePat_24 (R : Orc) (t4 : DV) (b1 : DV) (b3_0 : DV) (b3_1 : DV) (b3_2 : DV) (b3_3 : DV) (b3_4 : DV) (b3_5 : DV) (b3_6 : DV) : P_tree_onePat_24 R t4 b1 b3_0 b3_1 b3_2 b3_3 b3_4 b3_5 b3_6 =
  (ob (dLen (proj 6 b1)) fun d1 =>
  ob (dBin .eql d1 t4) fun d2 =>
  ogd d2
   (ob (dBin .eql b3_3 (proj 3 b1)) fun d3 =>
   ogd d3
    (ob (dBin .eql b3_4 (proj 4 b1)) fun d4 =>
    ogd d4
     (ob (dBin .eql b3_5 (proj 5 b1)) fun d5 =>
     some d5)
     (some (.bool false))
     none)
    (some (.bool false))
    none)
   (some (.bool false))
   none) := evP_of [24] (by kernel_rfl)
theorem fix_tree_onePat (x0 : DV) : (run cfg).p F_tree_onePat [x0] = P_tree_onePat (run cfg) x0 :=
  (fix_pure (C := cfg) (f := F_tree_onePat) (fn := Try.f79) (c := code_tree_onePat) (by kernel_rfl) Try.func79 (by kernel_rfl)).trans (by kernel_rfl)
theorem call_tree_onePat (x0 : DV) {d : DV} (h : P_tree_onePat (run cfg) x0 = some d) : (run cfg).p F_tree_onePat [x0] = some d := (fix_tree_onePat x0).trans h

noncomputable def code_scheme_Subst : Code := Try.f80.body.getD .skip
noncomputable def P_scheme_Subst (R : Orc) (x0 : DV) (x1 : DV) : Option DV := evP cfg R fl_scheme_Subst (retP cfg.P Try.f80) [] code_scheme_Subst (initSt Try.f80 [(x0, .val), (x1, .val)] [])
noncomputable def P_scheme_Subst_5h (R : Orc) (t1 : DV) (t16 : DV) (t17 : DV) (t18 : DV) (b2 : DV) (b4_0 : DV) (b4_1 : DV) (b4_2 : DV) (sg : List SObj) : Option DV := headP cfg R fl_scheme_Subst (retP cfg.P Try.f80) [true, true, true, false, true, false] code_scheme_Subst ⟨spread .undef 56 0 [(1, t1), (16, t16), (17, t17), (18, t18)], spread .val 56 0 [(2, (.loc 2 0)), (4, (.loc 4 0)), (6, (.map 0))], spread none 56 0 [(2, some [((proj 0 b2), .val), ((proj 1 b2), .val), ((proj 2 b2), .val)]), (4, some [(b4_0, .val), (b4_1, .val), (b4_2, .val)])], sg⟩
theorem eq_scheme_Subst (R : Orc) (x0 : DV) (x1 : DV) : P_scheme_Subst R x0 x1 =
  (og (isAggN 3 x0) <|
  ob (R.p F_typ_Check [(.agg [(proj 0 x0), (proj 1 x0), (proj 2 x0)])]) fun d1 =>
  ob (dBin .neq d1 (.int .i64 0)) fun d2 =>
  oif d2
   (some (.tup [(.agg [(.int .i64 0), (.int .i64 0), (.list 3 [])]), (.int .i64 1)]))
   (ob (dLen x1) fun d3 =>
   P_scheme_Subst_5h R x1 x1 d3 (.int .i64 0) x0 (.int .i64 0) (.int .i64 0) (.list 3 []) [.map false []])) := evP_of [] (by kernel_rfl)
set_option maxRecDepth 100000 in
theorem eq_scheme_Subst_5h (R : Orc) (t1 : DV) (t16 : DV) (t17 : DV) (t18 : DV) (b2 : DV) (b4_0 : DV) (b4_1 : DV) (b4_2 : DV) (sg : List SObj) : P_scheme_Subst_5h R t1 t16 t17 t18 b2 b4_0 b4_1 b4_2 sg =
  (ob (dBin .lss t18 t17) fun d1 =>
  oif d1
   (ob (dIdx 4 t16 t18) fun d2 =>
   ob (dBin .lss (proj 0 d2) (.int .i64 0)) fun d3 =>
   ogd d3
    (some (.tup [(.agg [(.int .i64 0), (.int .i64 0), (.list 3 [])]), (.int .i64 1)]))
    (ob (dBin .gtr (proj 0 d2) (.int .i64 1048576)) fun d4 =>
    ogd d4
     (some (.tup [(.agg [(.int .i64 0), (.int .i64 0), (.list 3 [])]), (.int .i64 1)]))
     (ob (R.p F_typ_Check [(.agg [(proj 1 d2), (proj 2 d2), (proj 3 d2)])]) fun d5 =>
     ob (dBin .neq d5 (.int .i64 0)) fun d6 =>
     oif d6
      (some (.tup [(.agg [(.int .i64 0), (.int .i64 0), (.list 3 [])]), (.int .i64 1)]))
      (og (isKey false (proj 0 d2) && true) <|
      ob (sgMap sg 0) fun m7 =>
      og (m7.1 == false) <|
      ob (dUn .not (.bool (mGet m7.2 (proj 0 d2)).isSome)) fun d8 =>
      oif d8
       (og (isKey false (proj 0 d2) && true && true) <|
       ob (sgMap sg 0) fun m9 =>
       og (m9.1 == false) <|
       ob (dBin .add t18 (.int .i64 1)) fun d10 =>
       P_scheme_Subst_5h R t1 t16 t17 d10 b2 b4_0 b4_1 b4_2 (sg.set 0 (.map false (mSet m9.2 (proj 0 d2) t18))))
       (ob (dBin .add t18 (.int .i64 1)) fun d11 =>
       P_scheme_Subst_5h R t1 t16 t17 d11 b2 b4_0 b4_1 b4_2 sg)))
     none)
    none)
   (ob (R.r F_scheme_put [((.agg [(proj 0 b2), (proj 1 b2), (proj 2 b2)]), .val), (t1, .val), (.undef, (.map 0))] sg) fun q12 =>
   og (isAggN 3 (q12.1.getD 0 .undef)) <|
   some (.tup [(.agg [(proj 0 (q12.1.getD 0 .undef)), (proj 1 (q12.1.getD 0 .undef)), (proj 2 (q12.1.getD 0 .undef))]), (.int .i64 0)]))) := headP_of [] (by kernel_rfl)
theorem fix_scheme_Subst (x0 : DV) (x1 : DV) : (run cfg).p F_scheme_Subst [x0, x1] = P_scheme_Subst (run cfg) x0 x1 :=
  (fix_pure (C := cfg) (f := F_scheme_Subst) (fn := Try.f80) (c := code_scheme_Subst) (by kernel_rfl) Try.func80 (by kernel_rfl)).trans (by kernel_rfl)
theorem call_scheme_Subst (x0 : DV) (x1 : DV) {d : DV} (h : P_scheme_Subst (run cfg) x0 x1 = some d) : (run cfg).p F_scheme_Subst [x0, x1] = some d := (fix_scheme_Subst x0 x1).trans h

noncomputable def code_slices_DeleteFunc__api_Bind_api_Bind : Code := Try.f81.body.getD .skip
noncomputable def P_slices_DeleteFunc__api_Bind_api_Bind (R : Orc) (x0i : Nat) (x0o : Nat) (x0n : Nat) (x1_0 : Nat) (sg : List SObj) : Option (List DV × List SObj) := evP cfg R fl_slices_DeleteFunc__api_Bind_api_Bind (retR cfg.P Try.f81 sig_slices_DeleteFunc__api_Bind_api_Bind) [] code_slices_DeleteFunc__api_Bind_api_Bind (initSt Try.f81 [(.undef, (.arr x0i 4 x0o x0n)), (.undef, (.fn 83 [(x1_0, 0)]))] sg)
noncomputable def P_slices_DeleteFunc__api_Bind_api_Bind_5h (R : Orc) (t0r0 : Nat) (t0r2 : Nat) (t0r3 : Nat) (t1c0 : Nat) (t5 : DV) (t6 : DV) (sg : List SObj) : Option (List DV × List SObj) := headP cfg R fl_slices_DeleteFunc__api_Bind_api_Bind (retR cfg.P Try.f81 sig_slices_DeleteFunc__api_Bind_api_Bind) [true, true, true, false, true, false] code_slices_DeleteFunc__api_Bind_api_Bind ⟨spread .undef 42 0 [(5, t5), (6, t6)], spread .val 42 0 [(0, (.arr t0r0 4 t0r2 t0r3)), (1, (.fn 83 [(t1c0, 0)]))], spread none 42 0 [], sg⟩
theorem eq_slices_DeleteFunc__api_Bind_api_Bind (R : Orc) (x0i : Nat) (x0o : Nat) (x0n : Nat) (x1_0 : Nat) (sg : List SObj) : P_slices_DeleteFunc__api_Bind_api_Bind R x0i x0o x0n x1_0 sg =
  (ob (R.r F_slices_IndexFunc__api_Bind_api_Bind [(.undef, (.arr x0i 4 x0o x0n)), (.undef, (.fn 83 [(x1_0, 0)]))] sg) fun q1 =>
  ob (dBin .eql (q1.1.getD 0 .undef) (.int .i64 (-1))) fun d2 =>
  oif d2
   (ob (seqO [sealCell q1.2 (.undef, (.arr x0i 4 x0o x0n))]) fun ds => some (ds, (q1.2.set x0i (SObj.arr 1 []))))
   (ob (dBin .add (q1.1.getD 0 .undef) (.int .i64 1)) fun d3 =>
   P_slices_DeleteFunc__api_Bind_api_Bind_5h R x0i x0o x0n x1_0 (q1.1.getD 0 .undef) d3 q1.2)) := evP_of [] (by kernel_rfl)
theorem eq_slices_DeleteFunc__api_Bind_api_Bind_5h (R : Orc) (t0r0 : Nat) (t0r2 : Nat) (t0r3 : Nat) (t1c0 : Nat) (t5 : DV) (t6 : DV) (sg : List SObj) : P_slices_DeleteFunc__api_Bind_api_Bind_5h R t0r0 t0r2 t0r3 t1c0 t5 t6 sg =
  (ob (dBin .lss t6 (.int .i64 t0r3)) fun d1 =>
  oif d1
   (ob (arrIdx t0r2 t0r3 t6) fun n2 =>
   ob (sgArr sg t0r0) fun r3 =>
   ob (r3.2[n2]?) fun d4 =>
   og (r3.1 == 4) <|
   ob (R.r F_term_outside_1 [((.agg [(proj 0 d4), (proj 1 d4), (proj 2 d4), (proj 3 d4)]), .val), (.undef, (.ptr t1c0 0))] sg) fun q5 =>
   ob (dUn .not (q5.1.getD 0 .undef)) fun d6 =>
   oif d6
    (ob (arrIdx t0r2 t0r3 t5) fun n7 =>
    ob (sgArr q5.2 t0r0) fun r8 =>
    ob (r8.2[n7]?) fun u9 =>
    og (r8.1 == 4) <|
    ob (dBin .add t5 (.int .i64 1)) fun d10 =>
    ob (dBin .add t6 (.int .i64 1)) fun d11 =>
    P_slices_DeleteFunc__api_Bind_api_Bind_5h R t0r0 t0r2 t0r3 t1c0 d10 d11 (q5.2.set t0r0 (.arr 4 (r8.2.set n7 (.agg [(proj 0 d4), (proj 1 d4), (proj 2 d4), (proj 3 d4)])))))
    (ob (dBin .add t6 (.int .i64 1)) fun d12 =>
    P_slices_DeleteFunc__api_Bind_api_Bind_5h R t0r0 t0r2 t0r3 t1c0 t5 d12 q5.2))
   (ob (bnd 0 (some t5)) fun n13 =>
   if n13 ≤ t0r3 ∧ t0r3 ≤ t0r3 then
    (ob (sgArr sg t0r0) fun r14 =>
    og (r14.1 == 4 && true && true && decide ((t0r2 + n13) + (t0r3 - n13) ≤ r14.2.length)) <|
    ob (bnd t0r3 (some t5)) fun n15 =>
    if 0 ≤ n15 ∧ n15 ≤ t0r3 then
     (ob (seqO [sealCell (sg.set t0r0 (.arr 4 (r14.2.take (t0r2 + n13)))) (.undef, (.arr t0r0 4 (t0r2 + 0) (n15 - 0)))]) fun ds => some (ds, ((sg.set t0r0 (.arr 4 (r14.2.take (t0r2 + n13)))).set t0r0 (SObj.arr 1 []))))
    else none)
   else none)) := headP_of [] (by kernel_rfl)
theorem fix_slices_DeleteFunc__api_Bind_api_Bind (x0i : Nat) (x0o : Nat) (x0n : Nat) (x1_0 : Nat) (sg : List SObj) : (run cfg).r F_slices_DeleteFunc__api_Bind_api_Bind [(.undef, (.arr x0i 4 x0o x0n)), (.undef, (.fn 83 [(x1_0, 0)]))] sg = P_slices_DeleteFunc__api_Bind_api_Bind (run cfg) x0i x0o x0n x1_0 sg :=
  (fix_raw (C := cfg) (f := F_slices_DeleteFunc__api_Bind_api_Bind) (s := sig_slices_DeleteFunc__api_Bind_api_Bind) (fn := Try.f81) (c := code_slices_DeleteFunc__api_Bind_api_Bind) (by kernel_rfl) Try.func81 (by kernel_rfl)).trans (by kernel_rfl)
theorem call_slices_DeleteFunc__api_Bind_api_Bind (x0i : Nat) (x0o : Nat) (x0n : Nat) (x1_0 : Nat) (sg : List SObj) {q : List DV × List SObj} (h : P_slices_DeleteFunc__api_Bind_api_Bind (run cfg) x0i x0o x0n x1_0 sg = some q) : (run cfg).r F_slices_DeleteFunc__api_Bind_api_Bind [(.undef, (.arr x0i 4 x0o x0n)), (.undef, (.fn 83 [(x1_0, 0)]))] sg = some q := (fix_slices_DeleteFunc__api_Bind_api_Bind x0i x0o x0n x1_0 sg).trans h

noncomputable def code_term_outside_1 : Code := Try.f83.body.getD .skip
noncomputable def P_term_outside_1 (R : Orc) (x0 : DV) (x1 : Nat) (sg : List SObj) : Option (List DV × List SObj) := evP cfg R fl_term_outside_1 (retR cfg.P Try.f83 sig_term_outside_1) [] code_term_outside_1 (initSt Try.f83 [(x0, .val), (.undef, (.ptr x1 0))] sg)
theorem eq_term_outside_1 (R : Orc) (x0 : DV) (x1 : Nat) (sg : List SObj) : P_term_outside_1 R x0 x1 sg =
  (og (isAggN 4 x0) <|
  ob (sgBox sg x1) fun c1 =>
  ob (cellDat c1 10) fun d2 =>
  ob (R.p F_slices_Contains__int_int [d2, (proj 0 x0)]) fun d3 =>
  some ([d3], sg)) := evP_of [] (by kernel_rfl)
theorem fix_term_outside_1 (x0 : DV) (x1 : Nat) (sg : List SObj) : (run cfg).r F_term_outside_1 [(x0, .val), (.undef, (.ptr x1 0))] sg = P_term_outside_1 (run cfg) x0 x1 sg :=
  (fix_raw (C := cfg) (f := F_term_outside_1) (s := sig_term_outside_1) (fn := Try.f83) (c := code_term_outside_1) (by kernel_rfl) Try.func83 (by kernel_rfl)).trans (by kernel_rfl)
theorem call_term_outside_1 (x0 : DV) (x1 : Nat) (sg : List SObj) {q : List DV × List SObj} (h : P_term_outside_1 (run cfg) x0 x1 sg = some q) : (run cfg).r F_term_outside_1 [(x0, .val), (.undef, (.ptr x1 0))] sg = some q := (fix_term_outside_1 x0 x1 sg).trans h

noncomputable def code_slices_Contains__int_int : Code := Try.f84.body.getD .skip
noncomputable def P_slices_Contains__int_int (R : Orc) (x0 : DV) (x1 : DV) : Option DV := evP cfg R fl_slices_Contains__int_int (retP cfg.P Try.f84) [] code_slices_Contains__int_int (initSt Try.f84 [(x0, .val), (x1, .val)] [])
theorem eq_slices_Contains__int_int (R : Orc) (x0 : DV) (x1 : DV) : P_slices_Contains__int_int R x0 x1 =
  (ob (R.p F_slices_Index__int_int [x0, x1]) fun d1 =>
  ob (dBin .geq d1 (.int .i64 0)) fun d2 =>
  some d2) := evP_of [] (by kernel_rfl)
theorem fix_slices_Contains__int_int (x0 : DV) (x1 : DV) : (run cfg).p F_slices_Contains__int_int [x0, x1] = P_slices_Contains__int_int (run cfg) x0 x1 :=
  (fix_pure (C := cfg) (f := F_slices_Contains__int_int) (fn := Try.f84) (c := code_slices_Contains__int_int) (by kernel_rfl) Try.func84 (by kernel_rfl)).trans (by kernel_rfl)
theorem call_slices_Contains__int_int (x0 : DV) (x1 : DV) {d : DV} (h : P_slices_Contains__int_int (run cfg) x0 x1 = some d) : (run cfg).p F_slices_Contains__int_int [x0, x1] = some d := (fix_slices_Contains__int_int x0 x1).trans h

noncomputable def code_typ_arity : Code := Try.f86.body.getD .skip
noncomputable def P_typ_arity (R : Orc) (x0 : DV) : Option DV := evP cfg R fl_typ_arity (retP cfg.P Try.f86) [] code_typ_arity (initSt Try.f86 [(x0, .val)] [])
theorem eq_typ_arity (R : Orc) (x0 : DV) : P_typ_arity R x0 =
  (ob (dBin .eql x0 (.int .i64 1)) fun d1 =>
  oif d1
   (some (.int .i64 0))
   (ob (dBin .eql x0 (.int .i64 2)) fun d2 =>
   oif d2
    (some (.int .i64 0))
    (ob (dBin .eql x0 (.int .i64 3)) fun d3 =>
    oif d3
     (some (.int .i64 0))
     (ob (dBin .eql x0 (.int .i64 4)) fun d4 =>
     oif d4
      (some (.int .i64 0))
      (ob (dBin .eql x0 (.int .i64 5)) fun d5 =>
      oif d5
       (some (.int .i64 0))
       (ob (dBin .eql x0 (.int .i64 6)) fun d6 =>
       oif d6
        (some (.int .i64 0))
        (ob (dBin .eql x0 (.int .i64 8)) fun d7 =>
        oif d7
         (some (.int .i64 1))
         (ob (dBin .eql x0 (.int .i64 7)) fun d8 =>
         oif d8
          (some (.int .i64 2))
          (ob (dBin .eql x0 (.int .i64 9)) fun d9 =>
          oif d9
           (some (.int .i64 2))
           (some (.int .i64 (-1)))))))))))) := evP_of [] (by kernel_rfl)
theorem fix_typ_arity (x0 : DV) : (run cfg).p F_typ_arity [x0] = P_typ_arity (run cfg) x0 :=
  (fix_pure (C := cfg) (f := F_typ_arity) (fn := Try.f86) (c := code_typ_arity) (by kernel_rfl) Try.func86 (by kernel_rfl)).trans (by kernel_rfl)
theorem call_typ_arity (x0 : DV) {d : DV} (h : P_typ_arity (run cfg) x0 = some d) : (run cfg).p F_typ_arity [x0] = some d := (fix_typ_arity x0).trans h

noncomputable def code_scheme_put : Code := Try.f89.body.getD .skip
noncomputable def P_scheme_put (R : Orc) (x0 : DV) (x1 : DV) (x2 : Nat) (sg : List SObj) : Option (List DV × List SObj) := evP cfg R fl_scheme_put (retR cfg.P Try.f89 sig_scheme_put) [] code_scheme_put (initSt Try.f89 [(x0, .val), (x1, .val), (.undef, (.map x2))] sg)
noncomputable def P_scheme_put_10h (R : Orc) (t1 : DV) (t2i : Nat) (t38 : DV) (t39 : DV) (t40 : DV) (b6_0 : DV) (b6_1 : DV) (b6_2 : DV) (b9_0 : DV) (b9_1 : DV) (b9_2 : DV) (sg : List SObj) : Option (List DV × List SObj) := headP cfg R fl_scheme_put (retR cfg.P Try.f89 sig_scheme_put) [true, true, true, true, false, true, false] code_scheme_put ⟨spread .undef 55 0 [(1, t1), (38, t38), (39, t39), (40, t40)], spread .val 55 0 [(2, (.map t2i)), (6, (.loc 6 0)), (9, (.loc 9 0))], spread none 55 0 [(6, some [(b6_0, .val), (b6_1, .val), (b6_2, .val)]), (9, some [(b9_0, .val), (b9_1, .val), (b9_2, .own)])], sg⟩
theorem eq_scheme_put (R : Orc) (x0 : DV) (x1 : DV) (x2 : Nat) (sg : List SObj) : P_scheme_put R x0 x1 x2 sg =
  (og (isAggN 3 x0) <|
  ob (dBin .eql (proj 0 x0) (.int .i64 6)) fun d1 =>
  oif d1
   (og (isKey false (proj 1 x0) && true) <|
   ob (sgMap sg x2) fun m2 =>
   og (m2.1 == false) <|
   oif (.bool (mGet m2.2 (proj 1 x0)).isSome)
    (ob (dIdx 4 x1 ((mGet m2.2 (proj 1 x0)).getD (.int .i64 0))) fun d3 =>
    some ([(.agg [(proj 1 d3), (proj 2 d3), (proj 3 d3)])], sg))
    (some ([(.agg [(proj 0 x0), (proj 1 x0), (proj 2 x0)])], sg)))
   (ob (dLen (proj 2 x0)) fun d4 =>
   ob (dBin .eql d4 (.int .i64 0)) fun d5 =>
   oif d5
    (some ([(.agg [(proj 0 x0), (proj 1 x0), (proj 2 x0)])], sg))
    (og (isCell (proj 0 x0)) <|
    ob (dLen (proj 2 x0)) fun d6 =>
    P_scheme_put_10h R x1 x2 (proj 2 x0) d6 (.int .i64 0) (.int .i64 0) (.int .i64 0) (.list 3 []) (proj 0 x0) (.int .i64 0) (.list 3 []) sg))) := evP_of [] (by kernel_rfl)
theorem eq_scheme_put_10h (R : Orc) (t1 : DV) (t2i : Nat) (t38 : DV) (t39 : DV) (t40 : DV) (b6_0 : DV) (b6_1 : DV) (b6_2 : DV) (b9_0 : DV) (b9_1 : DV) (b9_2 : DV) (sg : List SObj) : P_scheme_put_10h R t1 t2i t38 t39 t40 b6_0 b6_1 b6_2 b9_0 b9_1 b9_2 sg =
  (ob (dBin .lss t40 t39) fun d1 =>
  oif d1
   (ob (dIdx 3 t38 t40) fun d2 =>
   ob (R.r F_scheme_put [((.agg [(proj 0 d2), (proj 1 d2), (proj 2 d2)]), .val), (t1, .val), (.undef, (.map t2i))] sg) fun q3 =>
   og (isAggN 3 (q3.1.getD 0 .undef)) <|
   ob (dApp 3 b9_2 (.list 3 [(q3.1.getD 0 .undef)])) fun d4 =>
   ob (dBin .add t40 (.int .i64 1)) fun d5 =>
   P_scheme_put_10h R t1 t2i t38 t39 d5 b6_0 b6_1 b6_2 b9_0 b9_1 d4 q3.2)
   (some ([(.agg [b9_0, b9_1, b9_2])], sg))) := headP_of [] (by kernel_rfl)
theorem fix_scheme_put (x0 : DV) (x1 : DV) (x2 : Nat) (sg : List SObj) : (run cfg).r F_scheme_put [(x0, .val), (x1, .val), (.undef, (.map x2))] sg = P_scheme_put (run cfg) x0 x1 x2 sg :=
  (fix_raw (C := cfg) (f := F_scheme_put) (s := sig_scheme_put) (fn := Try.f89) (c := code_scheme_put) (by kernel_rfl) Try.func89 (by kernel_rfl)).trans (by kernel_rfl)
theorem call_scheme_put (x0 : DV) (x1 : DV) (x2 : Nat) (sg : List SObj) {q : List DV × List SObj} (h : P_scheme_put (run cfg) x0 x1 x2 sg = some q) : (run cfg).r F_scheme_put [(x0, .val), (x1, .val), (.undef, (.map x2))] sg = some q := (fix_scheme_put x0 x1 x2 sg).trans h

noncomputable def code_slices_IndexFunc__api_Bind_api_Bind : Code := Try.f90.body.getD .skip
noncomputable def P_slices_IndexFunc__api_Bind_api_Bind (R : Orc) (x0i : Nat) (x0o : Nat) (x0n : Nat) (x1_0 : Nat) (sg : List SObj) : Option (List DV × List SObj) := evP cfg R fl_slices_IndexFunc__api_Bind_api_Bind (retR cfg.P Try.f90 sig_slices_IndexFunc__api_Bind_api_Bind) [] code_slices_IndexFunc__api_Bind_api_Bind (initSt Try.f90 [(.undef, (.arr x0i 4 x0o x0n)), (.undef, (.fn 83 [(x1_0, 0)]))] sg)
noncomputable def P_slices_IndexFunc__api_Bind_api_Bind_2h (R : Orc) (t0r0 : Nat) (t0r2 : Nat) (t0r3 : Nat) (t1c0 : Nat) (t7 : DV) (t8 : DV) (sg : List SObj) : Option (List DV × List SObj) := headP cfg R fl_slices_IndexFunc__api_Bind_api_Bind (retR cfg.P Try.f90 sig_slices_IndexFunc__api_Bind_api_Bind) [true, false, true, false] code_slices_IndexFunc__api_Bind_api_Bind ⟨spread .undef 19 0 [(7, t7), (8, t8)], spread .val 19 0 [(0, (.arr t0r0 4 t0r2 t0r3)), (1, (.fn 83 [(t1c0, 0)]))], spread none 19 0 [], sg⟩
theorem eq_slices_IndexFunc__api_Bind_api_Bind (R : Orc) (x0i : Nat) (x0o : Nat) (x0n : Nat) (x1_0 : Nat) (sg : List SObj) : P_slices_IndexFunc__api_Bind_api_Bind R x0i x0o x0n x1_0 sg =
  (P_slices_IndexFunc__api_Bind_api_Bind_2h R x0i x0o x0n x1_0 (.int .i64 x0n) (.int .i64 0) sg) := evP_of [] (by kernel_rfl)
theorem eq_slices_IndexFunc__api_Bind_api_Bind_2h (R : Orc) (t0r0 : Nat) (t0r2 : Nat) (t0r3 : Nat) (t1c0 : Nat) (t7 : DV) (t8 : DV) (sg : List SObj) : P_slices_IndexFunc__api_Bind_api_Bind_2h R t0r0 t0r2 t0r3 t1c0 t7 t8 sg =
  (ob (dBin .lss t8 t7) fun d1 =>
  oif d1
   (ob (arrIdx t0r2 t0r3 t8) fun n2 =>
   ob (sgArr sg t0r0) fun r3 =>
   ob (r3.2[n2]?) fun d4 =>
   og (r3.1 == 4) <|
   ob (R.r F_term_outside_1 [((.agg [(proj 0 d4), (proj 1 d4), (proj 2 d4), (proj 3 d4)]), .val), (.undef, (.ptr t1c0 0))] sg) fun q5 =>
   oif (q5.1.getD 0 .undef)
    (some ([t8], q5.2))
    (ob (dBin .add t8 (.int .i64 1)) fun d6 =>
    P_slices_IndexFunc__api_Bind_api_Bind_2h R t0r0 t0r2 t0r3 t1c0 t7 d6 q5.2))
   (some ([(.int .i64 (-1))], sg))) := headP_of [] (by kernel_rfl)
theorem fix_slices_IndexFunc__api_Bind_api_Bind (x0i : Nat) (x0o : Nat) (x0n : Nat) (x1_0 : Nat) (sg : List SObj) : (run cfg).r F_slices_IndexFunc__api_Bind_api_Bind [(.undef, (.arr x0i 4 x0o x0n)), (.undef, (.fn 83 [(x1_0, 0)]))] sg = P_slices_IndexFunc__api_Bind_api_Bind (run cfg) x0i x0o x0n x1_0 sg :=
  (fix_raw (C := cfg) (f := F_slices_IndexFunc__api_Bind_api_Bind) (s := sig_slices_IndexFunc__api_Bind_api_Bind) (fn := Try.f90) (c := code_slices_IndexFunc__api_Bind_api_Bind) (by kernel_rfl) Try.func90 (by kernel_rfl)).trans (by kernel_rfl)
theorem call_slices_IndexFunc__api_Bind_api_Bind (x0i : Nat) (x0o : Nat) (x0n : Nat) (x1_0 : Nat) (sg : List SObj) {q : List DV × List SObj} (h : P_slices_IndexFunc__api_Bind_api_Bind (run cfg) x0i x0o x0n x1_0 sg = some q) : (run cfg).r F_slices_IndexFunc__api_Bind_api_Bind [(.undef, (.arr x0i 4 x0o x0n)), (.undef, (.fn 83 [(x1_0, 0)]))] sg = some q := (fix_slices_IndexFunc__api_Bind_api_Bind x0i x0o x0n x1_0 sg).trans h

noncomputable def code_slices_Index__int_int : Code := Try.f91.body.getD .skip
noncomputable def P_slices_Index__int_int (R : Orc) (x0 : DV) (x1 : DV) : Option DV := evP cfg R fl_slices_Index__int_int (retP cfg.P Try.f91) [] code_slices_Index__int_int (initSt Try.f91 [(x0, .val), (x1, .val)] [])
noncomputable def P_slices_Index__int_int_2h (R : Orc) (t0 : DV) (t1 : DV) (t7 : DV) (t8 : DV) : Option DV := headP cfg R fl_slices_Index__int_int (retP cfg.P Try.f91) [true, false, true, false] code_slices_Index__int_int ⟨spread .undef 19 0 [(0, t0), (1, t1), (7, t7), (8, t8)], spread .val 19 0 [], spread none 19 0 [], []⟩
theorem eq_slices_Index__int_int (R : Orc) (x0 : DV) (x1 : DV) : P_slices_Index__int_int R x0 x1 =
  (ob (dLen x0) fun d1 =>
  P_slices_Index__int_int_2h R x0 x1 d1 (.int .i64 0)) := evP_of [] (by kernel_rfl)
theorem eq_slices_Index__int_int_2h (R : Orc) (t0 : DV) (t1 : DV) (t7 : DV) (t8 : DV) : P_slices_Index__int_int_2h R t0 t1 t7 t8 =
  (ob (dBin .lss t8 t7) fun d1 =>
  oif d1
   (ob (dIdx 1 t0 t8) fun d2 =>
   og (isLeaf d2) <|
   ob (dBin .eql t1 d2) fun d3 =>
   oif d3
    (some t8)
    (ob (dBin .add t8 (.int .i64 1)) fun d4 =>
    P_slices_Index__int_int_2h R t0 t1 t7 d4))
   (some (.int .i64 (-1)))) := headP_of [] (by kernel_rfl)
theorem fix_slices_Index__int_int (x0 : DV) (x1 : DV) : (run cfg).p F_slices_Index__int_int [x0, x1] = P_slices_Index__int_int (run cfg) x0 x1 :=
  (fix_pure (C := cfg) (f := F_slices_Index__int_int) (fn := Try.f91) (c := code_slices_Index__int_int) (by kernel_rfl) Try.func91 (by kernel_rfl)).trans (by kernel_rfl)
theorem call_slices_Index__int_int (x0 : DV) (x1 : DV) {d : DV} (h : P_slices_Index__int_int (run cfg) x0 x1 = some d) : (run cfg).p F_slices_Index__int_int [x0, x1] = some d := (fix_slices_Index__int_int x0 x1).trans h

end Go.Su

/-
  All equations.
-/
namespace Go.Su
end Go.Su
