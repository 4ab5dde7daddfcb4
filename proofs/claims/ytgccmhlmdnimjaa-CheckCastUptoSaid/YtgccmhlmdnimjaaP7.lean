/-
  Equations of the program's functions: by program.
-/
import Derived.Test.YtgccmhlmdnimjaaP5
namespace Go.Su
open Go.Proofs
set_option linter.unusedVariables false

/-! ### l19_CheckCast -/
noncomputable def code_l19_CheckCast : Code := Try.f3.body.getD .skip
noncomputable def P_l19_CheckCast (R : Orc) (x0 : DV) (x1 : DV) (x2 : DV) : Option DV := evP cfg R fl_l19_CheckCast (retP cfg.P Try.f3) [] code_l19_CheckCast (initSt Try.f3 [(x0, .val), (x1, .val), (x2, .val)] [])
noncomputable def P_l19_CheckCast_3 (R : Orc) (b3 : DV) (b4 : DV) (b5 : DV) : Option DV := evP cfg R fl_l19_CheckCast (retP cfg.P Try.f3) [true, true] code_l19_CheckCast ⟨spread .undef 143 0 [], spread .val 143 0 [(3, (.loc 3 0)), (4, (.loc 4 0)), (5, (.loc 5 0))], spread none 143 0 [(3, some [((proj 0 b3), .val), ((proj 1 b3), .val), ((proj 2 b3), .val), ((proj 3 b3), .val), ((proj 4 b3), .val), ((proj 5 b3), .val), ((proj 6 b3), .val), ((proj 7 b3), .val), ((proj 8 b3), .val), ((proj 9 b3), .val), ((proj 10 b3), .val), ((proj 11 b3), .val), ((proj 12 b3), .val), ((proj 13 b3), .val), ((proj 14 b3), .val), ((proj 15 b3), .val), ((proj 16 b3), .val), ((proj 17 b3), .val), ((proj 18 b3), .val), ((proj 19 b3), .val)]), (4, some [((proj 0 b4), .val), ((proj 1 b4), .val), ((proj 2 b4), .val)]), (5, some [((proj 0 b5), .val), ((proj 1 b5), .val), ((proj 2 b5), .val)])], []⟩
noncomputable def P_l19_CheckCast_4 (R : Orc) (t8 : DV) (b3 : DV) (b4 : DV) (b5 : DV) (b7 : DV) : Option DV := evP cfg R fl_l19_CheckCast (retP cfg.P Try.f3) [true, true, true] code_l19_CheckCast ⟨spread .undef 143 0 [(8, t8)], spread .val 143 0 [(3, (.loc 3 0)), (4, (.loc 4 0)), (5, (.loc 5 0)), (7, (.loc 7 0))], spread none 143 0 [(3, some [((proj 0 b3), .val), ((proj 1 b3), .val), ((proj 2 b3), .val), ((proj 3 b3), .val), ((proj 4 b3), .val), ((proj 5 b3), .val), ((proj 6 b3), .val), ((proj 7 b3), .val), ((proj 8 b3), .val), ((proj 9 b3), .val), ((proj 10 b3), .val), ((proj 11 b3), .val), ((proj 12 b3), .val), ((proj 13 b3), .val), ((proj 14 b3), .val), ((proj 15 b3), .val), ((proj 16 b3), .val), ((proj 17 b3), .val), ((proj 18 b3), .val), ((proj 19 b3), .val)]), (4, some [((proj 0 b4), .val), ((proj 1 b4), .val), ((proj 2 b4), .val)]), (5, some [((proj 0 b5), .val), ((proj 1 b5), .val), ((proj 2 b5), .val)]), (7, some [((proj 0 b7), .val), ((proj 1 b7), .val), ((proj 2 b7), .val)])], []⟩
noncomputable def P_l19_CheckCast_5 (R : Orc) (t8 : DV) (b4 : DV) (b5 : DV) (b7 : DV) (b9_0 : DV) (b9_1 : DV) (b9_2 : DV) (b9_3 : DV) (b9_4 : DV) (b9_5 : DV) (b9_6 : DV) (b9_7 : DV) (b9_8 : DV) (b9_9 : DV) (b9_10 : DV) (b9_11 : DV) (b9_12 : DV) (b9_13 : DV) (b9_14 : DV) (b9_15 : DV) (b9_16 : DV) (b9_17 : DV) (b9_18 : DV) (b9_19 : DV) : Option DV := evP cfg R fl_l19_CheckCast (retP cfg.P Try.f3) [true, true, true, true] code_l19_CheckCast ⟨spread .undef 143 0 [(8, t8)], spread .val 143 0 [(4, (.loc 4 0)), (5, (.loc 5 0)), (7, (.loc 7 0)), (9, (.loc 9 0))], spread none 143 0 [(4, some [((proj 0 b4), .val), ((proj 1 b4), .val), ((proj 2 b4), .val)]), (5, some [((proj 0 b5), .val), ((proj 1 b5), .val), ((proj 2 b5), .val)]), (7, some [((proj 0 b7), .val), ((proj 1 b7), .val), ((proj 2 b7), .val)]), (9, some [(b9_0, .val), (b9_1, .val), (b9_2, .val), (b9_3, .val), (b9_4, .val), (b9_5, .val), (b9_6, .val), (b9_7, .val), (b9_8, .val), (b9_9, .val), (b9_10, .val), (b9_11, .val), (b9_12, .val), (b9_13, .val), (b9_14, .val), (b9_15, .val), (b9_16, .val), (b9_17, .val), (b9_18, .val), (b9_19, .val)])], []⟩
noncomputable def P_l19_CheckCast_6 (R : Orc) (t8 : DV) (t11 : DV) (b4 : DV) (b5 : DV) (b7 : DV) (b9_0 : DV) (b9_1 : DV) (b9_2 : DV) (b9_3 : DV) (b9_4 : DV) (b9_5 : DV) (b9_6 : DV) (b9_7 : DV) (b9_8 : DV) (b9_9 : DV) (b9_10 : DV) (b9_11 : DV) (b9_12 : DV) (b9_13 : DV) (b9_14 : DV) (b9_15 : DV) (b9_16 : DV) (b9_17 : DV) (b9_18 : DV) (b9_19 : DV) (b10 : DV) : Option DV := evP cfg R fl_l19_CheckCast (retP cfg.P Try.f3) [true, true, true, true, true] code_l19_CheckCast ⟨spread .undef 143 0 [(8, t8), (11, t11)], spread .val 143 0 [(4, (.loc 4 0)), (5, (.loc 5 0)), (7, (.loc 7 0)), (9, (.loc 9 0)), (10, (.loc 10 0))], spread none 143 0 [(4, some [((proj 0 b4), .val), ((proj 1 b4), .val), ((proj 2 b4), .val)]), (5, some [((proj 0 b5), .val), ((proj 1 b5), .val), ((proj 2 b5), .val)]), (7, some [((proj 0 b7), .val), ((proj 1 b7), .val), ((proj 2 b7), .val)]), (9, some [(b9_0, .val), (b9_1, .val), (b9_2, .val), (b9_3, .val), (b9_4, .val), (b9_5, .val), (b9_6, .val), (b9_7, .val), (b9_8, .val), (b9_9, .val), (b9_10, .val), (b9_11, .val), (b9_12, .val), (b9_13, .val), (b9_14, .val), (b9_15, .val), (b9_16, .val), (b9_17, .val), (b9_18, .val), (b9_19, .val)]), (10, some [((proj 0 b10), .val), ((proj 1 b10), .val), ((proj 2 b10), .val)])], []⟩
noncomputable def P_l19_CheckCast_8 (R : Orc) (t11 : DV) (b4 : DV) (b5 : DV) (b7 : DV) (b9_0 : DV) (b9_1 : DV) (b9_2 : DV) (b9_3 : DV) (b9_4 : DV) (b9_5 : DV) (b9_6 : DV) (b9_7 : DV) (b9_8 : DV) (b9_9 : DV) (b9_10 : DV) (b9_11 : DV) (b9_12 : DV) (b9_13 : DV) (b9_14 : DV) (b9_15 : DV) (b9_16 : DV) (b9_17 : DV) (b9_18 : DV) (b9_19 : DV) : Option DV := evP cfg R fl_l19_CheckCast (retP cfg.P Try.f3) [true, true, true, true, true, true] code_l19_CheckCast ⟨spread .undef 143 0 [(11, t11)], spread .val 143 0 [(4, (.loc 4 0)), (5, (.loc 5 0)), (7, (.loc 7 0)), (9, (.loc 9 0))], spread none 143 0 [(4, some [((proj 0 b4), .val), ((proj 1 b4), .val), ((proj 2 b4), .val)]), (5, some [((proj 0 b5), .val), ((proj 1 b5), .val), ((proj 2 b5), .val)]), (7, some [((proj 0 b7), .val), ((proj 1 b7), .val), ((proj 2 b7), .val)]), (9, some [(b9_0, .val), (b9_1, .val), (b9_2, .val), (b9_3, .val), (b9_4, .val), (b9_5, .val), (b9_6, .val), (b9_7, .val), (b9_8, .val), (b9_9, .val), (b9_10, .val), (b9_11, .val), (b9_12, .val), (b9_13, .val), (b9_14, .val), (b9_15, .val), (b9_16, .val), (b9_17, .val), (b9_18, .val), (b9_19, .val)])], []⟩
noncomputable def P_l19_CheckCast_16 (R : Orc) (t11 : DV) (t15 : DV) (b4 : DV) (b7 : DV) : Option DV := evP cfg R fl_l19_CheckCast (retP cfg.P Try.f3) [true, true, true, true, true, true, true, true, true, true, true, true] code_l19_CheckCast ⟨spread .undef 143 0 [(11, t11), (15, t15)], spread .val 143 0 [(4, (.loc 4 0)), (7, (.loc 7 0))], spread none 143 0 [(4, some [((proj 0 b4), .val), ((proj 1 b4), .val), ((proj 2 b4), .val)]), (7, some [((proj 0 b7), .val), ((proj 1 b7), .val), ((proj 2 b7), .val)])], []⟩
set_option maxRecDepth 100000 in
theorem eq_l19_CheckCast (R : Orc) (x0 : DV) (x1 : DV) (x2 : DV) : P_l19_CheckCast R x0 x1 x2 =
  (og (isAggN 20 x0) <|
  og (isAggN 3 x1) <|
  og (isAggN 3 x2) <|
  ob (R.p F_l17_Heavy [(.list 20 [(.agg [(proj 0 x0), (proj 1 x0), (proj 2 x0), (proj 3 x0), (proj 4 x0), (proj 5 x0), (proj 6 x0), (proj 7 x0), (proj 8 x0), (proj 9 x0), (proj 10 x0), (proj 11 x0), (proj 12 x0), (proj 13 x0), (proj 14 x0), (proj 15 x0), (proj 16 x0), (proj 17 x0), (proj 18 x0), (proj 19 x0)])])]) fun d1 =>
  ogd d1
   (some (.bool true))
   (ob (R.p F_r17_Right [(.agg [(proj 0 x0), (proj 1 x0), (proj 2 x0), (proj 3 x0), (proj 4 x0), (proj 5 x0), (proj 6 x0), (proj 7 x0), (proj 8 x0), (proj 9 x0), (proj 10 x0), (proj 11 x0), (proj 12 x0), (proj 13 x0), (proj 14 x0), (proj 15 x0), (proj 16 x0), (proj 17 x0), (proj 18 x0), (proj 19 x0)])]) fun d2 =>
   ob (dUn .not d2) fun d3 =>
   ogd d3
    (some (.bool true))
    (ob (R.p F_r17_TameTerm [(.agg [(proj 0 x0), (proj 1 x0), (proj 2 x0), (proj 3 x0), (proj 4 x0), (proj 5 x0), (proj 6 x0), (proj 7 x0), (proj 8 x0), (proj 9 x0), (proj 10 x0), (proj 11 x0), (proj 12 x0), (proj 13 x0), (proj 14 x0), (proj 15 x0), (proj 16 x0), (proj 17 x0), (proj 18 x0), (proj 19 x0)])]) fun d4 =>
    ob (dUn .not d4) fun d5 =>
    ogd d5
     (some (.bool true))
     (ob (R.p F_l11_Small [(.list 3 [(.agg [(proj 0 x1), (proj 1 x1), (proj 2 x1)]), (.agg [(proj 0 x2), (proj 1 x2), (proj 2 x2)])])]) fun d6 =>
     ob (dUn .not d6) fun d7 =>
     ogd d7
      (some (.bool true))
      (ob (R.p F_r03_Right [(.agg [(proj 0 x1), (proj 1 x1), (proj 2 x1)])]) fun d8 =>
      ob (dUn .not d8) fun d9 =>
      ogd d9
       (some (.bool true))
       (ob (R.p F_r03_Right [(.agg [(proj 0 x2), (proj 1 x2), (proj 2 x2)])]) fun d10 =>
       ob (dUn .not d10) fun d11 =>
       ogd d11
        (some (.bool true))
        (ob (R.p F_r03_Size [(.agg [(proj 0 x1), (proj 1 x1), (proj 2 x1)])]) fun d12 =>
        ob (R.p F_r03_Size [(.agg [(proj 0 x2), (proj 1 x2), (proj 2 x2)])]) fun d13 =>
        ob (dBin .add d12 d13) fun d14 =>
        ob (dBin .gtr d14 (.int .i64 100)) fun d15 =>
        oif d15
         (some (.bool true))
         (P_l19_CheckCast_3 R x0 x1 x2))
        none)
       none)
      none)
     none)
    none)
   none) := evP_of [3, 4, 5, 6, 8, 16] (by kernel_rfl)
theorem eq_l19_CheckCast_3 (R : Orc) (b3 : DV) (b4 : DV) (b5 : DV) : P_l19_CheckCast_3 R b3 b4 b5 =
  (ob (R.p F_check_Type [(.agg [(proj 0 b3), (proj 1 b3), (proj 2 b3), (proj 3 b3), (proj 4 b3), (proj 5 b3), (proj 6 b3), (proj 7 b3), (proj 8 b3), (proj 9 b3), (proj 10 b3), (proj 11 b3), (proj 12 b3), (proj 13 b3), (proj 14 b3), (proj 15 b3), (proj 16 b3), (proj 17 b3), (proj 18 b3), (proj 19 b3)])]) fun d1 =>
  ob (dExt 0 d1) fun d2 =>
  ob (dExt 1 d1) fun d3 =>
  og (isAggN 3 d2) <|
  P_l19_CheckCast_4 R d3 b3 b4 b5 d2) := evP_of [3, 4, 5, 6, 8, 16] (by kernel_rfl)
theorem eq_l19_CheckCast_4 (R : Orc) (t8 : DV) (b3 : DV) (b4 : DV) (b5 : DV) (b7 : DV) : P_l19_CheckCast_4 R t8 b3 b4 b5 b7 =
  (P_l19_CheckCast_5 R t8 b4 b5 b7 (.int .i64 16) (.int .i64 0) (.int .i64 0) (.str ⟨#[]⟩) (.str ⟨#[]⟩) (.int .i64 0) (.str ⟨#[]⟩) (.int .i64 0) (.int .i64 0) (.bool false) (.list 1 []) (proj 0 b4) (proj 1 b4) (proj 2 b4) (proj 0 b5) (proj 1 b5) (proj 2 b5) (.list 3 []) (.list 7 []) (.list 20 [(.agg [(proj 0 b3), (proj 1 b3), (proj 2 b3), (proj 3 b3), (proj 4 b3), (proj 5 b3), (proj 6 b3), (proj 7 b3), (proj 8 b3), (proj 9 b3), (proj 10 b3), (proj 11 b3), (proj 12 b3), (proj 13 b3), (proj 14 b3), (proj 15 b3), (proj 16 b3), (proj 17 b3), (proj 18 b3), (proj 19 b3)])])) := evP_of [3, 4, 5, 6, 8, 16] (by kernel_rfl)
theorem eq_l19_CheckCast_5 (R : Orc) (t8 : DV) (b4 : DV) (b5 : DV) (b7 : DV) (b9_0 : DV) (b9_1 : DV) (b9_2 : DV) (b9_3 : DV) (b9_4 : DV) (b9_5 : DV) (b9_6 : DV) (b9_7 : DV) (b9_8 : DV) (b9_9 : DV) (b9_10 : DV) (b9_11 : DV) (b9_12 : DV) (b9_13 : DV) (b9_14 : DV) (b9_15 : DV) (b9_16 : DV) (b9_17 : DV) (b9_18 : DV) (b9_19 : DV) : P_l19_CheckCast_5 R t8 b4 b5 b7 b9_0 b9_1 b9_2 b9_3 b9_4 b9_5 b9_6 b9_7 b9_8 b9_9 b9_10 b9_11 b9_12 b9_13 b9_14 b9_15 b9_16 b9_17 b9_18 b9_19 =
  (ob (R.p F_check_Type [(.agg [b9_0, b9_1, b9_2, b9_3, b9_4, b9_5, b9_6, b9_7, b9_8, b9_9, b9_10, b9_11, b9_12, b9_13, b9_14, b9_15, b9_16, b9_17, b9_18, b9_19])]) fun d1 =>
  ob (dExt 0 d1) fun d2 =>
  ob (dExt 1 d1) fun d3 =>
  og (isAggN 3 d2) <|
  P_l19_CheckCast_6 R t8 d3 b4 b5 b7 b9_0 b9_1 b9_2 b9_3 b9_4 b9_5 b9_6 b9_7 b9_8 b9_9 b9_10 b9_11 b9_12 b9_13 b9_14 b9_15 b9_16 b9_17 b9_18 b9_19 d2) := evP_of [3, 4, 5, 6, 8, 16] (by kernel_rfl)
theorem eq_l19_CheckCast_6 (R : Orc) (t8 : DV) (t11 : DV) (b4 : DV) (b5 : DV) (b7 : DV) (b9_0 : DV) (b9_1 : DV) (b9_2 : DV) (b9_3 : DV) (b9_4 : DV) (b9_5 : DV) (b9_6 : DV) (b9_7 : DV) (b9_8 : DV) (b9_9 : DV) (b9_10 : DV) (b9_11 : DV) (b9_12 : DV) (b9_13 : DV) (b9_14 : DV) (b9_15 : DV) (b9_16 : DV) (b9_17 : DV) (b9_18 : DV) (b9_19 : DV) (b10 : DV) : P_l19_CheckCast_6 R t8 t11 b4 b5 b7 b9_0 b9_1 b9_2 b9_3 b9_4 b9_5 b9_6 b9_7 b9_8 b9_9 b9_10 b9_11 b9_12 b9_13 b9_14 b9_15 b9_16 b9_17 b9_18 b9_19 b10 =
  (ob (dBin .neq t8 (.int .i64 0)) fun d1 =>
  oif d1
   (ob (dBin .eql t11 t8) fun d2 =>
   ogd d2
    (ob (dBin .eql (proj 0 b10) (.int .i64 0)) fun d3 =>
    ogd d3
     (ob (R.p F_l19_wakes []) fun d4 =>
     some d4)
     (some (.bool false))
     none)
    (some (.bool false))
    none)
   (P_l19_CheckCast_8 R t11 b4 b5 b7 b9_0 b9_1 b9_2 b9_3 b9_4 b9_5 b9_6 b9_7 b9_8 b9_9 b9_10 b9_11 b9_12 b9_13 b9_14 b9_15 b9_16 b9_17 b9_18 b9_19)) := evP_of [3, 4, 5, 6, 8, 16] (by kernel_rfl)
set_option maxRecDepth 100000 in
theorem eq_l19_CheckCast_8 (R : Orc) (t11 : DV) (b4 : DV) (b5 : DV) (b7 : DV) (b9_0 : DV) (b9_1 : DV) (b9_2 : DV) (b9_3 : DV) (b9_4 : DV) (b9_5 : DV) (b9_6 : DV) (b9_7 : DV) (b9_8 : DV) (b9_9 : DV) (b9_10 : DV) (b9_11 : DV) (b9_12 : DV) (b9_13 : DV) (b9_14 : DV) (b9_15 : DV) (b9_16 : DV) (b9_17 : DV) (b9_18 : DV) (b9_19 : DV) : P_l19_CheckCast_8 R t11 b4 b5 b7 b9_0 b9_1 b9_2 b9_3 b9_4 b9_5 b9_6 b9_7 b9_8 b9_9 b9_10 b9_11 b9_12 b9_13 b9_14 b9_15 b9_16 b9_17 b9_18 b9_19 =
  (ob (R.p F_check_Type [(.agg [b9_0, b9_1, b9_2, b9_3, b9_4, b9_5, b9_6, b9_7, b9_8, b9_9, b9_10, (proj 0 b7), (proj 1 b7), (proj 2 b7), b9_14, b9_15, b9_16, b9_17, b9_18, b9_19])]) fun d1 =>
  ob (dExt 0 d1) fun d2 =>
  ob (dExt 1 d1) fun d3 =>
  og (isAggN 3 d2) <|
  ob (R.p F_r03_Without [(.agg [(proj 0 b5), (proj 1 b5), (proj 2 b5)]), (.int .i64 6)]) fun d4 =>
  ob (dUn .not d4) fun d5 =>
  oif d5
   (ob (dBin .neq t11 (.int .i64 0)) fun d6 =>
   ogd d6
    (ob (dBin .eql d3 (.int .i64 6)) fun d7 =>
    ogd d7
     (ob (dBin .eql (proj 0 d2) (.int .i64 0)) fun d8 =>
     ogd d8
      (ob (R.p F_l19_wakes []) fun d9 =>
      some d9)
      (some (.bool false))
      none)
     (some (.bool false))
     none)
    (some (.bool false))
    none)
   (ob (R.p F_l19_agrees [(.agg [(proj 0 b7), (proj 1 b7), (proj 2 b7)]), (.agg [(proj 0 b5), (proj 1 b5), (proj 2 b5)])]) fun d10 =>
   ob (dBin .eql d3 (.int .i64 0)) fun d11 =>
   ob (dEqB d11 d10) fun b12 =>
   ogd (.bool !b12)
    (some (.bool false))
    (ogd d10
     (ob (R.p F_keep_Same [(.agg [(proj 0 d2), (proj 1 d2), (proj 2 d2)]), (.agg [(proj 0 b5), (proj 1 b5), (proj 2 b5)])]) fun d13 =>
     ob (dUn .not d13) fun d14 =>
     ogd d14
      (some (.bool false))
      (ob (dUn .not d10) fun d15 =>
      ogd d15
       (ob (dBin .neq d3 (.int .i64 4)) fun d16 =>
       oif d16
        (some (.bool false))
        (P_l19_CheckCast_16 R t11 d10 b4 b7))
       (P_l19_CheckCast_16 R t11 d10 b4 b7)
       none)
      none)
     (ob (dUn .not d10) fun d17 =>
     ogd d17
      (ob (dBin .neq d3 (.int .i64 4)) fun d18 =>
      oif d18
       (some (.bool false))
       (P_l19_CheckCast_16 R t11 d10 b4 b7))
      (P_l19_CheckCast_16 R t11 d10 b4 b7)
      none)
     none)
    none)) := evP_of [3, 4, 5, 6, 8, 16] (by kernel_rfl)
theorem eq_l19_CheckCast_16 (R : Orc) (t11 : DV) (t15 : DV) (b4 : DV) (b7 : DV) : P_l19_CheckCast_16 R t11 t15 b4 b7 =
  (ob (dBin .eql t11 (.int .i64 0)) fun d1 =>
  ogd t15
   (ob (R.p F_keep_Same [(.agg [(proj 0 b4), (proj 1 b4), (proj 2 b4)]), (.agg [(proj 0 b7), (proj 1 b7), (proj 2 b7)])]) fun d2 =>
   ob (dEqB d1 d2) fun b3 =>
   ogd (.bool b3)
    (ob (R.p F_l19_wakes []) fun d4 =>
    some d4)
    (some (.bool false))
    none)
   (ob (dEqB d1 (.bool false)) fun b5 =>
   ogd (.bool b5)
    (ob (R.p F_l19_wakes []) fun d6 =>
    some d6)
    (some (.bool false))
    none)
   none) := evP_of [3, 4, 5, 6, 8, 16] (by kernel_rfl)
theorem call_l19_CheckCast (x0 : DV) (x1 : DV) (x2 : DV) {d : DV} (h : P_l19_CheckCast (run cfg) x0 x1 x2 = some d) : (run cfg).p F_l19_CheckCast [x0, x1, x2] = some d :=
  run_pure (fn := Try.f3) (c := code_l19_CheckCast) (by kernel_rfl) Try.func3 (by kernel_rfl) ((show _ = P_l19_CheckCast (run cfg) x0 x1 x2 by kernel_rfl).trans h)

/-! ### l17_Heavy -/
noncomputable def code_l17_Heavy : Code := Try.f9.body.getD .skip
noncomputable def P_l17_Heavy (R : Orc) (x0 : DV) : Option DV := evP cfg R fl_l17_Heavy (retP cfg.P Try.f9) [] code_l17_Heavy (initSt Try.f9 [(x0, .val)] [])
noncomputable def P_l17_Heavy_3h (R : Orc) (t0 : DV) (t3 : DV) (t4 : DV) : Option DV := headP cfg R fl_l17_Heavy (retP cfg.P Try.f9) [true, true, false, true, false] code_l17_Heavy ⟨spread .undef 19 0 [(0, t0), (3, t3), (4, t4)], spread .val 19 0 [], spread none 19 0 [], []⟩
theorem eq_l17_Heavy (R : Orc) (x0 : DV) : P_l17_Heavy R x0 =
  (P_l17_Heavy_3h R x0 (.int .i64 0) (.int .i64 0)) := evP_of [] (by kernel_rfl)
theorem eq_l17_Heavy_3h (R : Orc) (t0 : DV) (t3 : DV) (t4 : DV) : P_l17_Heavy_3h R t0 t3 t4 =
  (ob (dLen t0) fun d1 =>
  ob (dBin .lss t4 d1) fun d2 =>
  oif d2
   (ob (dIdx 20 t0 t4) fun d3 =>
   ob (R.p F_l17_weigh [(.agg [(proj 0 d3), (proj 1 d3), (proj 2 d3), (proj 3 d3), (proj 4 d3), (proj 5 d3), (proj 6 d3), (proj 7 d3), (proj 8 d3), (proj 9 d3), (proj 10 d3), (proj 11 d3), (proj 12 d3), (proj 13 d3), (proj 14 d3), (proj 15 d3), (proj 16 d3), (proj 17 d3), (proj 18 d3), (proj 19 d3)]), t3]) fun d4 =>
   ob (dBin .add t4 (.int .i64 1)) fun d5 =>
   P_l17_Heavy_3h R t0 d4 d5)
   (ob (dBin .gtr t3 (.int .i64 500)) fun d6 =>
   some d6)) := headP_of [] (by kernel_rfl)
theorem call_l17_Heavy (x0 : DV) {d : DV} (h : P_l17_Heavy (run cfg) x0 = some d) : (run cfg).p F_l17_Heavy [x0] = some d :=
  run_pure (fn := Try.f9) (c := code_l17_Heavy) (by kernel_rfl) Try.func9 (by kernel_rfl) ((show _ = P_l17_Heavy (run cfg) x0 by kernel_rfl).trans h)

/-! ### r17_Right -/
noncomputable def code_r17_Right : Code := Try.f10.body.getD .skip
noncomputable def P_r17_Right (R : Orc) (x0 : DV) : Option DV := evP cfg R fl_r17_Right (retP cfg.P Try.f10) [] code_r17_Right (initSt Try.f10 [(x0, .val)] [])
noncomputable def P_r17_Right_4h (R : Orc) (t3 : DV) (b1 : DV) : Option DV := headP cfg R fl_r17_Right (retP cfg.P Try.f10) [true, true, false, true, false] code_r17_Right ⟨spread .undef 21 0 [(3, t3)], spread .val 21 0 [(1, (.loc 1 0))], spread none 21 0 [(1, some [((proj 0 b1), .val), ((proj 1 b1), .val), ((proj 2 b1), .val), ((proj 3 b1), .val), ((proj 4 b1), .val), ((proj 5 b1), .val), ((proj 6 b1), .val), ((proj 7 b1), .val), ((proj 8 b1), .val), ((proj 9 b1), .val), ((proj 10 b1), .val), ((proj 11 b1), .val), ((proj 12 b1), .val), ((proj 13 b1), .val), ((proj 14 b1), .val), ((proj 15 b1), .val), ((proj 16 b1), .val), ((proj 17 b1), .val), ((proj 18 b1), .val), ((proj 19 b1), .val)])], []⟩
theorem eq_r17_Right (R : Orc) (x0 : DV) : P_r17_Right R x0 =
  (og (isAggN 20 x0) <|
  ob (R.p F_r17_own [(.agg [(proj 0 x0), (proj 1 x0), (proj 2 x0), (proj 3 x0), (proj 4 x0), (proj 5 x0), (proj 6 x0), (proj 7 x0), (proj 8 x0), (proj 9 x0), (proj 10 x0), (proj 11 x0), (proj 12 x0), (proj 13 x0), (proj 14 x0), (proj 15 x0), (proj 16 x0), (proj 17 x0), (proj 18 x0), (proj 19 x0)])]) fun d1 =>
  ob (dUn .not d1) fun d2 =>
  oif d2
   (some (.bool false))
   (P_r17_Right_4h R (.int .i64 0) x0)) := evP_of [] (by kernel_rfl)
theorem eq_r17_Right_4h (R : Orc) (t3 : DV) (b1 : DV) : P_r17_Right_4h R t3 b1 =
  (ob (dLen (proj 19 b1)) fun d1 =>
  ob (dBin .lss t3 d1) fun d2 =>
  oif d2
   (ob (dIdx 20 (proj 19 b1) t3) fun d3 =>
   ob (R.p F_r17_Right [(.agg [(proj 0 d3), (proj 1 d3), (proj 2 d3), (proj 3 d3), (proj 4 d3), (proj 5 d3), (proj 6 d3), (proj 7 d3), (proj 8 d3), (proj 9 d3), (proj 10 d3), (proj 11 d3), (proj 12 d3), (proj 13 d3), (proj 14 d3), (proj 15 d3), (proj 16 d3), (proj 17 d3), (proj 18 d3), (proj 19 d3)])]) fun d4 =>
   ob (dUn .not d4) fun d5 =>
   oif d5
    (some (.bool false))
    (ob (dBin .add t3 (.int .i64 1)) fun d6 =>
    P_r17_Right_4h R d6 b1))
   (some (.bool true))) := headP_of [] (by kernel_rfl)
theorem call_r17_Right (x0 : DV) {d : DV} (h : P_r17_Right (run cfg) x0 = some d) : (run cfg).p F_r17_Right [x0] = some d :=
  run_pure (fn := Try.f10) (c := code_r17_Right) (by kernel_rfl) Try.func10 (by kernel_rfl) ((show _ = P_r17_Right (run cfg) x0 by kernel_rfl).trans h)

/-! ### r17_TameTerm -/
noncomputable def code_r17_TameTerm : Code := Try.f11.body.getD .skip
noncomputable def P_r17_TameTerm (R : Orc) (x0 : DV) : Option DV := evP cfg R fl_r17_TameTerm (retP cfg.P Try.f11) [] code_r17_TameTerm (initSt Try.f11 [(x0, .val)] [])
theorem eq_r17_TameTerm (R : Orc) (x0 : DV) : P_r17_TameTerm R x0 =
  (og (isAggN 20 x0) <|
  ob (R.p F_r17_Right [(.agg [(proj 0 x0), (proj 1 x0), (proj 2 x0), (proj 3 x0), (proj 4 x0), (proj 5 x0), (proj 6 x0), (proj 7 x0), (proj 8 x0), (proj 9 x0), (proj 10 x0), (proj 11 x0), (proj 12 x0), (proj 13 x0), (proj 14 x0), (proj 15 x0), (proj 16 x0), (proj 17 x0), (proj 18 x0), (proj 19 x0)])]) fun d1 =>
  ob (dUn .not d1) fun d2 =>
  oif d2
   (some (.bool true))
   (ob (R.r F_r17_bulk [(.undef, (.ptr 0 0)), ((.agg [(proj 0 x0), (proj 1 x0), (proj 2 x0), (proj 3 x0), (proj 4 x0), (proj 5 x0), (proj 6 x0), (proj 7 x0), (proj 8 x0), (proj 9 x0), (proj 10 x0), (proj 11 x0), (proj 12 x0), (proj 13 x0), (proj 14 x0), (proj 15 x0), (proj 16 x0), (proj 17 x0), (proj 18 x0), (proj 19 x0)]), .val), ((.list 2 []), .val)] [SObj.box [((.bool false), .val)]]) fun q3 =>
   ob (sgBox q3.2 0) fun c4 =>
   ob (cellDat c4 0) fun d5 =>
   ob (dUn .not d5) fun d6 =>
   some d6)) := evP_of [] (by kernel_rfl)
theorem call_r17_TameTerm (x0 : DV) {d : DV} (h : P_r17_TameTerm (run cfg) x0 = some d) : (run cfg).p F_r17_TameTerm [x0] = some d :=
  run_pure (fn := Try.f11) (c := code_r17_TameTerm) (by kernel_rfl) Try.func11 (by kernel_rfl) ((show _ = P_r17_TameTerm (run cfg) x0 by kernel_rfl).trans h)

/-! ### l11_Small -/
noncomputable def code_l11_Small : Code := Try.f12.body.getD .skip
noncomputable def P_l11_Small (R : Orc) (x0 : DV) : Option DV := evP cfg R fl_l11_Small (retP cfg.P Try.f12) [] code_l11_Small (initSt Try.f12 [(x0, .val)] [])
noncomputable def P_l11_Small_2h (R : Orc) (t0 : DV) (t3 : DV) : Option DV := headP cfg R fl_l11_Small (retP cfg.P Try.f12) [true, false, true, false] code_l11_Small ⟨spread .undef 32 0 [(0, t0), (3, t3)], spread .val 32 0 [], spread none 32 0 [], []⟩
theorem eq_l11_Small (R : Orc) (x0 : DV) : P_l11_Small R x0 =
  (P_l11_Small_2h R x0 (.int .i64 0)) := evP_of [] (by kernel_rfl)
set_option maxRecDepth 100000 in
theorem eq_l11_Small_2h (R : Orc) (t0 : DV) (t3 : DV) : P_l11_Small_2h R t0 t3 =
  (ob (dLen t0) fun d1 =>
  ob (dBin .lss t3 d1) fun d2 =>
  oif d2
   (ob (dIdx 3 t0 t3) fun d3 =>
   ob (R.p F_l03_Heavy [(.list 3 [(.agg [(proj 0 d3), (proj 1 d3), (proj 2 d3)])])]) fun d4 =>
   ogd d4
    (some (.bool false))
    (ob (dIdx 3 t0 t3) fun d5 =>
    ob (R.p F_r08_Deep [(.agg [(proj 0 d5), (proj 1 d5), (proj 2 d5)]), (.int .i64 60)]) fun d6 =>
    ogd d6
     (some (.bool false))
     (ob (dIdx 3 t0 t3) fun d7 =>
     ob (R.p F_r03_Vars [(.agg [(proj 0 d7), (proj 1 d7), (proj 2 d7)])]) fun d8 =>
     ob (dLen d8) fun d9 =>
     ob (dBin .gtr d9 (.int .i64 8)) fun d10 =>
     oif d10
      (some (.bool false))
      (ob (dBin .add t3 (.int .i64 1)) fun d11 =>
      P_l11_Small_2h R t0 d11))
     none)
    none)
   (some (.bool true))) := headP_of [] (by kernel_rfl)
theorem call_l11_Small (x0 : DV) {d : DV} (h : P_l11_Small (run cfg) x0 = some d) : (run cfg).p F_l11_Small [x0] = some d :=
  run_pure (fn := Try.f12) (c := code_l11_Small) (by kernel_rfl) Try.func12 (by kernel_rfl) ((show _ = P_l11_Small (run cfg) x0 by kernel_rfl).trans h)

/-! ### r03_Right -/
noncomputable def code_r03_Right : Code := Try.f13.body.getD .skip
noncomputable def P_r03_Right (R : Orc) (x0 : DV) : Option DV := evP cfg R fl_r03_Right (retP cfg.P Try.f13) [] code_r03_Right (initSt Try.f13 [(x0, .val)] [])
noncomputable def P_r03_Right_4h (R : Orc) (t3 : DV) (b1 : DV) : Option DV := headP cfg R fl_r03_Right (retP cfg.P Try.f13) [true, true, false, true, false] code_r03_Right ⟨spread .undef 45 0 [(3, t3)], spread .val 45 0 [(1, (.loc 1 0))], spread none 45 0 [(1, some [((proj 0 b1), .val), ((proj 1 b1), .val), ((proj 2 b1), .val)])], []⟩
set_option maxRecDepth 100000 in
theorem eq_r03_Right (R : Orc) (x0 : DV) : P_r03_Right R x0 =
  (og (isAggN 3 x0) <|
  ob (R.p F_r03_Kids [(proj 0 x0)]) fun d1 =>
  ob (dLen (proj 2 x0)) fun d2 =>
  ob (dBin .neq d1 d2) fun d3 =>
  ogd d3
   (some (.bool false))
   (ob (dBin .lss (proj 1 x0) (.int .i64 0)) fun d4 =>
   ogd d4
    (some (.bool false))
    (ob (dBin .gtr (proj 1 x0) (.int .i64 1048576)) fun d5 =>
    ogd d5
     (some (.bool false))
     (ob (dBin .neq (proj 0 x0) (.int .i64 6)) fun d6 =>
     ogd d6
      (ob (dBin .neq (proj 1 x0) (.int .i64 0)) fun d7 =>
      oif d7
       (some (.bool false))
       (P_r03_Right_4h R (.int .i64 0) x0))
      (P_r03_Right_4h R (.int .i64 0) x0)
      none)
     none)
    none)
   none) := evP_of [] (by kernel_rfl)
theorem eq_r03_Right_4h (R : Orc) (t3 : DV) (b1 : DV) : P_r03_Right_4h R t3 b1 =
  (ob (dLen (proj 2 b1)) fun d1 =>
  ob (dBin .lss t3 d1) fun d2 =>
  oif d2
   (ob (dIdx 3 (proj 2 b1) t3) fun d3 =>
   ob (R.p F_r03_Right [(.agg [(proj 0 d3), (proj 1 d3), (proj 2 d3)])]) fun d4 =>
   ob (dUn .not d4) fun d5 =>
   oif d5
    (some (.bool false))
    (ob (dBin .add t3 (.int .i64 1)) fun d6 =>
    P_r03_Right_4h R d6 b1))
   (some (.bool true))) := headP_of [] (by kernel_rfl)
theorem call_r03_Right (x0 : DV) {d : DV} (h : P_r03_Right (run cfg) x0 = some d) : (run cfg).p F_r03_Right [x0] = some d :=
  run_pure (fn := Try.f13) (c := code_r03_Right) (by kernel_rfl) Try.func13 (by kernel_rfl) ((show _ = P_r03_Right (run cfg) x0 by kernel_rfl).trans h)

/-! ### r03_Size -/
noncomputable def code_r03_Size : Code := Try.f14.body.getD .skip
noncomputable def P_r03_Size (R : Orc) (x0 : DV) : Option DV := evP cfg R fl_r03_Size (retP cfg.P Try.f14) [] code_r03_Size (initSt Try.f14 [(x0, .val)] [])
noncomputable def P_r03_Size_3h (R : Orc) (t3 : DV) (t4 : DV) (b1 : DV) : Option DV := headP cfg R fl_r03_Size (retP cfg.P Try.f14) [true, true, false, true, false] code_r03_Size ⟨spread .undef 21 0 [(3, t3), (4, t4)], spread .val 21 0 [(1, (.loc 1 0))], spread none 21 0 [(1, some [((proj 0 b1), .val), ((proj 1 b1), .val), ((proj 2 b1), .val)])], []⟩
theorem eq_r03_Size (R : Orc) (x0 : DV) : P_r03_Size R x0 =
  (og (isAggN 3 x0) <|
  P_r03_Size_3h R (.int .i64 1) (.int .i64 0) x0) := evP_of [] (by kernel_rfl)
theorem eq_r03_Size_3h (R : Orc) (t3 : DV) (t4 : DV) (b1 : DV) : P_r03_Size_3h R t3 t4 b1 =
  (ob (dLen (proj 2 b1)) fun d1 =>
  ob (dBin .lss t4 d1) fun d2 =>
  oif d2
   (ob (dIdx 3 (proj 2 b1) t4) fun d3 =>
   ob (R.p F_r03_Size [(.agg [(proj 0 d3), (proj 1 d3), (proj 2 d3)])]) fun d4 =>
   ob (dBin .add t3 d4) fun d5 =>
   ob (dBin .add t4 (.int .i64 1)) fun d6 =>
   P_r03_Size_3h R d5 d6 b1)
   (some t3)) := headP_of [] (by kernel_rfl)
theorem call_r03_Size (x0 : DV) {d : DV} (h : P_r03_Size (run cfg) x0 = some d) : (run cfg).p F_r03_Size [x0] = some d :=
  run_pure (fn := Try.f14) (c := code_r03_Size) (by kernel_rfl) Try.func14 (by kernel_rfl) ((show _ = P_r03_Size (run cfg) x0 by kernel_rfl).trans h)

/-! ### check_Type -/
noncomputable def code_check_Type : Code := Try.f15.body.getD .skip
noncomputable def P_check_Type (R : Orc) (x0 : DV) : Option DV := evP cfg R fl_check_Type (retP cfg.P Try.f15) [] code_check_Type (initSt Try.f15 [(x0, .val)] [])
theorem eq_check_Type (R : Orc) (x0 : DV) : P_check_Type R x0 =
  (og (isAggN 20 x0) <|
  ob (R.p F_term_Check [(.agg [(proj 0 x0), (proj 1 x0), (proj 2 x0), (proj 3 x0), (proj 4 x0), (proj 5 x0), (proj 6 x0), (proj 7 x0), (proj 8 x0), (proj 9 x0), (proj 10 x0), (proj 11 x0), (proj 12 x0), (proj 13 x0), (proj 14 x0), (proj 15 x0), (proj 16 x0), (proj 17 x0), (proj 18 x0), (proj 19 x0)])]) fun d1 =>
  ob (dBin .neq d1 (.int .i64 0)) fun d2 =>
  oif d2
   (some (.tup [(.agg [(.int .i64 0), (.int .i64 0), (.list 3 [])]), (.int .i64 1)]))
   (ob (R.r F_check_scope_term [(.undef, (.map 0)), ((.agg [(proj 0 x0), (proj 1 x0), (proj 2 x0), (proj 3 x0), (proj 4 x0), (proj 5 x0), (proj 6 x0), (proj 7 x0), (proj 8 x0), (proj 9 x0), (proj 10 x0), (proj 11 x0), (proj 12 x0), (proj 13 x0), (proj 14 x0), (proj 15 x0), (proj 16 x0), (proj 17 x0), (proj 18 x0), (proj 19 x0)]), .val), ((.list 5 []), .val)] [.map false []]) fun q3 =>
   ob (dExt 0 (.tup q3.1)) fun d4 =>
   ob (dExt 1 (.tup q3.1)) fun d5 =>
   og (isAggN 3 d4) <|
   some (.tup [(.agg [(proj 0 d4), (proj 1 d4), (proj 2 d4)]), d5]))) := evP_of [] (by kernel_rfl)
theorem call_check_Type (x0 : DV) {d : DV} (h : P_check_Type (run cfg) x0 = some d) : (run cfg).p F_check_Type [x0] = some d :=
  run_pure (fn := Try.f15) (c := code_check_Type) (by kernel_rfl) Try.func15 (by kernel_rfl) ((show _ = P_check_Type (run cfg) x0 by kernel_rfl).trans h)

/-! ### l19_wakes -/
noncomputable def code_l19_wakes : Code := Try.f16.body.getD .skip
noncomputable def P_l19_wakes (R : Orc) : Option DV := evP cfg R fl_l19_wakes (retP cfg.P Try.f16) [] code_l19_wakes (initSt Try.f16 [] [])
set_option maxRecDepth 100000 in
theorem eq_l19_wakes (R : Orc) : P_l19_wakes R =
  (ob (R.p F_l19_cast [(.int .i64 1), (.int .i64 5), (.agg [(.int .i64 2), (.int .i64 0), (.int .i64 0), (.str ⟨#[]⟩), (.str ⟨#[]⟩), (.int .i64 5), (.str ⟨#[]⟩), (.int .i64 0), (.int .i64 0), (.bool false), (.list 1 []), (.int .i64 0), (.int .i64 0), (.list 3 []), (.int .i64 0), (.int .i64 0), (.list 3 []), (.list 3 []), (.list 7 []), (.list 20 [])])]) fun d1 =>
  ob (R.p F_check_Type [d1]) fun d2 =>
  ob (dExt 0 d2) fun d3 =>
  ob (dExt 1 d2) fun d4 =>
  og (isAggN 3 d3) <|
  ob (R.p F_l19_cast [(.int .i64 1), (.int .i64 2), (.agg [(.int .i64 2), (.int .i64 0), (.int .i64 0), (.str ⟨#[]⟩), (.str ⟨#[]⟩), (.int .i64 5), (.str ⟨#[]⟩), (.int .i64 0), (.int .i64 0), (.bool false), (.list 1 []), (.int .i64 0), (.int .i64 0), (.list 3 []), (.int .i64 0), (.int .i64 0), (.list 3 []), (.list 3 []), (.list 7 []), (.list 20 [])])]) fun d5 =>
  ob (R.p F_check_Type [d5]) fun d6 =>
  ob (dExt 0 d6) fun d7 =>
  ob (dExt 1 d6) fun d8 =>
  og (isAggN 3 d7) <|
  ob (R.p F_check_Type [(.agg [(.int .i64 1), (.int .i64 0), (.int .i64 0), (.str ⟨#[120]⟩), (.str ⟨#[]⟩), (.int .i64 0), (.str ⟨#[]⟩), (.int .i64 0), (.int .i64 0), (.bool false), (.list 1 []), (.int .i64 0), (.int .i64 0), (.list 3 []), (.int .i64 0), (.int .i64 0), (.list 3 []), (.list 3 []), (.list 7 []), (.list 20 [])])]) fun d9 =>
  ob (dExt 0 d9) fun d10 =>
  ob (dExt 1 d9) fun d11 =>
  og (isAggN 3 d10) <|
  ob (dBin .eql d4 (.int .i64 0)) fun d12 =>
  ogd d12
   (ob (dBin .eql (proj 0 d3) (.int .i64 5)) fun d13 =>
   ogd d13
    (ob (dBin .eql d8 (.int .i64 4)) fun d14 =>
    ogd d14
     (ob (dBin .eql d11 (.int .i64 6)) fun d15 =>
     some d15)
     (some (.bool false))
     none)
    (some (.bool false))
    none)
   (some (.bool false))
   none) := evP_of [] (by kernel_rfl)
theorem call_l19_wakes {d : DV} (h : P_l19_wakes (run cfg) = some d) : (run cfg).p F_l19_wakes [] = some d :=
  run_pure (fn := Try.f16) (c := code_l19_wakes) (by kernel_rfl) Try.func16 (by kernel_rfl) ((show _ = P_l19_wakes (run cfg) by kernel_rfl).trans h)

/-! ### r03_Without -/
noncomputable def code_r03_Without : Code := Try.f17.body.getD .skip
noncomputable def P_r03_Without (R : Orc) (x0 : DV) (x1 : DV) : Option DV := evP cfg R fl_r03_Without (retP cfg.P Try.f17) [] code_r03_Without (initSt Try.f17 [(x0, .val), (x1, .val)] [])
noncomputable def P_r03_Without_4h (R : Orc) (t1 : DV) (t5 : DV) (b2 : DV) : Option DV := headP cfg R fl_r03_Without (retP cfg.P Try.f17) [true, true, false, true, false] code_r03_Without ⟨spread .undef 25 0 [(1, t1), (5, t5)], spread .val 25 0 [(2, (.loc 2 0))], spread none 25 0 [(2, some [((proj 0 b2), .val), ((proj 1 b2), .val), ((proj 2 b2), .val)])], []⟩
theorem eq_r03_Without (R : Orc) (x0 : DV) (x1 : DV) : P_r03_Without R x0 x1 =
  (og (isAggN 3 x0) <|
  ob (dBin .eql (proj 0 x0) x1) fun d1 =>
  oif d1
   (some (.bool false))
   (P_r03_Without_4h R x1 (.int .i64 0) x0)) := evP_of [] (by kernel_rfl)
theorem eq_r03_Without_4h (R : Orc) (t1 : DV) (t5 : DV) (b2 : DV) : P_r03_Without_4h R t1 t5 b2 =
  (ob (dLen (proj 2 b2)) fun d1 =>
  ob (dBin .lss t5 d1) fun d2 =>
  oif d2
   (ob (dIdx 3 (proj 2 b2) t5) fun d3 =>
   ob (R.p F_r03_Without [(.agg [(proj 0 d3), (proj 1 d3), (proj 2 d3)]), t1]) fun d4 =>
   ob (dUn .not d4) fun d5 =>
   oif d5
    (some (.bool false))
    (ob (dBin .add t5 (.int .i64 1)) fun d6 =>
    P_r03_Without_4h R t1 d6 b2))
   (some (.bool true))) := headP_of [] (by kernel_rfl)
theorem call_r03_Without (x0 : DV) (x1 : DV) {d : DV} (h : P_r03_Without (run cfg) x0 x1 = some d) : (run cfg).p F_r03_Without [x0, x1] = some d :=
  run_pure (fn := Try.f17) (c := code_r03_Without) (by kernel_rfl) Try.func17 (by kernel_rfl) ((show _ = P_r03_Without (run cfg) x0 x1 by kernel_rfl).trans h)

/-! ### l19_agrees -/
noncomputable def code_l19_agrees : Code := Try.f18.body.getD .skip
noncomputable def P_l19_agrees (R : Orc) (x0 : DV) (x1 : DV) : Option DV := evP cfg R fl_l19_agrees (retP cfg.P Try.f18) [] code_l19_agrees (initSt Try.f18 [(x0, .val), (x1, .val)] [])
noncomputable def P_l19_agrees_6h (R : Orc) (t5 : DV) (b2 : DV) (b3 : DV) : Option DV := headP cfg R fl_l19_agrees (retP cfg.P Try.f18) [true, true, true, false, true, false] code_l19_agrees ⟨spread .undef 38 0 [(5, t5)], spread .val 38 0 [(2, (.loc 2 0)), (3, (.loc 3 0))], spread none 38 0 [(2, some [((proj 0 b2), .val), ((proj 1 b2), .val), ((proj 2 b2), .val)]), (3, some [((proj 0 b3), .val), ((proj 1 b3), .val), ((proj 2 b3), .val)])], []⟩
theorem eq_l19_agrees (R : Orc) (x0 : DV) (x1 : DV) : P_l19_agrees R x0 x1 =
  (og (isAggN 3 x0) <|
  og (isAggN 3 x1) <|
  ob (dBin .eql (proj 0 x0) (.int .i64 5)) fun d1 =>
  ogd d1
   (some (.bool true))
   (ob (dBin .eql (proj 0 x1) (.int .i64 5)) fun d2 =>
   oif d2
    (some (.bool true))
    (ob (dBin .neq (proj 0 x0) (proj 0 x1)) fun d3 =>
    oif d3
     (some (.bool false))
     (P_l19_agrees_6h R (.int .i64 0) x0 x1)))
   none) := evP_of [] (by kernel_rfl)
theorem eq_l19_agrees_6h (R : Orc) (t5 : DV) (b2 : DV) (b3 : DV) : P_l19_agrees_6h R t5 b2 b3 =
  (ob (dLen (proj 2 b2)) fun d1 =>
  ob (dBin .lss t5 d1) fun d2 =>
  oif d2
   (ob (dIdx 3 (proj 2 b2) t5) fun d3 =>
   ob (dIdx 3 (proj 2 b3) t5) fun d4 =>
   ob (R.p F_l19_agrees [(.agg [(proj 0 d3), (proj 1 d3), (proj 2 d3)]), (.agg [(proj 0 d4), (proj 1 d4), (proj 2 d4)])]) fun d5 =>
   ob (dUn .not d5) fun d6 =>
   oif d6
    (some (.bool false))
    (ob (dBin .add t5 (.int .i64 1)) fun d7 =>
    P_l19_agrees_6h R d7 b2 b3))
   (some (.bool true))) := headP_of [] (by kernel_rfl)
theorem call_l19_agrees (x0 : DV) (x1 : DV) {d : DV} (h : P_l19_agrees (run cfg) x0 x1 = some d) : (run cfg).p F_l19_agrees [x0, x1] = some d :=
  run_pure (fn := Try.f18) (c := code_l19_agrees) (by kernel_rfl) Try.func18 (by kernel_rfl) ((show _ = P_l19_agrees (run cfg) x0 x1 by kernel_rfl).trans h)

/-! ### keep_Same -/
noncomputable def code_keep_Same : Code := Try.f19.body.getD .skip
noncomputable def P_keep_Same (R : Orc) (x0 : DV) (x1 : DV) : Option DV := evP cfg R fl_keep_Same (retP cfg.P Try.f19) [] code_keep_Same (initSt Try.f19 [(x0, .val), (x1, .val)] [])
noncomputable def P_keep_Same_4h (R : Orc) (t5 : DV) (b2 : DV) (b3 : DV) : Option DV := headP cfg R fl_keep_Same (retP cfg.P Try.f19) [true, true, false, true, false] code_keep_Same ⟨spread .undef 46 0 [(5, t5)], spread .val 46 0 [(2, (.loc 2 0)), (3, (.loc 3 0))], spread none 46 0 [(2, some [((proj 0 b2), .val), ((proj 1 b2), .val), ((proj 2 b2), .val)]), (3, some [((proj 0 b3), .val), ((proj 1 b3), .val), ((proj 2 b3), .val)])], []⟩
set_option maxRecDepth 100000 in
theorem eq_keep_Same (R : Orc) (x0 : DV) (x1 : DV) : P_keep_Same R x0 x1 =
  (og (isAggN 3 x0) <|
  og (isAggN 3 x1) <|
  ob (dBin .neq (proj 0 x0) (proj 0 x1)) fun d1 =>
  ogd d1
   (some (.bool false))
   (ob (dBin .neq (proj 1 x0) (proj 1 x1)) fun d2 =>
   ogd d2
    (some (.bool false))
    (ob (dLen (proj 2 x0)) fun d3 =>
    ob (dLen (proj 2 x1)) fun d4 =>
    ob (dBin .neq d3 d4) fun d5 =>
    oif d5
     (some (.bool false))
     (P_keep_Same_4h R (.int .i64 0) x0 x1))
    none)
   none) := evP_of [] (by kernel_rfl)
theorem eq_keep_Same_4h (R : Orc) (t5 : DV) (b2 : DV) (b3 : DV) : P_keep_Same_4h R t5 b2 b3 =
  (ob (dLen (proj 2 b2)) fun d1 =>
  ob (dBin .lss t5 d1) fun d2 =>
  oif d2
   (ob (dIdx 3 (proj 2 b2) t5) fun d3 =>
   ob (dIdx 3 (proj 2 b3) t5) fun d4 =>
   ob (R.p F_keep_Same [(.agg [(proj 0 d3), (proj 1 d3), (proj 2 d3)]), (.agg [(proj 0 d4), (proj 1 d4), (proj 2 d4)])]) fun d5 =>
   ob (dUn .not d5) fun d6 =>
   oif d6
    (some (.bool false))
    (ob (dBin .add t5 (.int .i64 1)) fun d7 =>
    P_keep_Same_4h R d7 b2 b3))
   (some (.bool true))) := headP_of [] (by kernel_rfl)
theorem call_keep_Same (x0 : DV) (x1 : DV) {d : DV} (h : P_keep_Same (run cfg) x0 x1 = some d) : (run cfg).p F_keep_Same [x0, x1] = some d :=
  run_pure (fn := Try.f19) (c := code_keep_Same) (by kernel_rfl) Try.func19 (by kernel_rfl) ((show _ = P_keep_Same (run cfg) x0 x1 by kernel_rfl).trans h)

/-! ### r05_Names -/
noncomputable def code_r05_Names : Code := Try.f31.body.getD .skip
noncomputable def P_r05_Names (R : Orc) (x0 : DV) : Option DV := evP cfg R fl_r05_Names (retP cfg.P Try.f31) [] code_r05_Names (initSt Try.f31 [(x0, .val)] [])
theorem eq_r05_Names (R : Orc) (x0 : DV) : P_r05_Names R x0 =
  (og (isAggN 7 x0) <|
  ob (R.r F_r05_names [((.agg [(proj 0 x0), (proj 1 x0), (proj 2 x0), (proj 3 x0), (proj 4 x0), (proj 5 x0), (proj 6 x0)]), .val), ((.list 1 []), .own)] []) fun q1 =>
  some (q1.1.getD 0 .undef)) := evP_of [] (by kernel_rfl)
theorem call_r05_Names (x0 : DV) {d : DV} (h : P_r05_Names (run cfg) x0 = some d) : (run cfg).p F_r05_Names [x0] = some d :=
  run_pure (fn := Try.f31) (c := code_r05_Names) (by kernel_rfl) Try.func31 (by kernel_rfl) ((show _ = P_r05_Names (run cfg) x0 by kernel_rfl).trans h)

/-! ### r05_Has -/
noncomputable def code_r05_Has : Code := Try.f32.body.getD .skip
noncomputable def P_r05_Has (R : Orc) (x0 : DV) (x1 : DV) : Option DV := evP cfg R fl_r05_Has (retP cfg.P Try.f32) [] code_r05_Has (initSt Try.f32 [(x0, .val), (x1, .val)] [])
noncomputable def P_r05_Has_2h (R : Orc) (t0 : DV) (t1 : DV) (t5 : DV) : Option DV := headP cfg R fl_r05_Has (retP cfg.P Try.f32) [true, false, true, false] code_r05_Has ⟨spread .undef 18 0 [(0, t0), (1, t1), (5, t5)], spread .val 18 0 [], spread none 18 0 [], []⟩
theorem eq_r05_Has (R : Orc) (x0 : DV) (x1 : DV) : P_r05_Has R x0 x1 =
  (P_r05_Has_2h R x0 x1 (.int .i64 0)) := evP_of [] (by kernel_rfl)
theorem eq_r05_Has_2h (R : Orc) (t0 : DV) (t1 : DV) (t5 : DV) : P_r05_Has_2h R t0 t1 t5 =
  (ob (dLen t0) fun d1 =>
  ob (dBin .lss t5 d1) fun d2 =>
  oif d2
   (ob (dIdx 1 t0 t5) fun d3 =>
   og (isLeaf d3) <|
   ob (dBin .eql d3 t1) fun d4 =>
   oif d4
    (some (.bool true))
    (ob (dBin .add t5 (.int .i64 1)) fun d5 =>
    P_r05_Has_2h R t0 t1 d5))
   (some (.bool false))) := headP_of [] (by kernel_rfl)
theorem call_r05_Has (x0 : DV) (x1 : DV) {d : DV} (h : P_r05_Has (run cfg) x0 x1 = some d) : (run cfg).p F_r05_Has [x0, x1] = some d :=
  run_pure (fn := Try.f32) (c := code_r05_Has) (by kernel_rfl) Try.func32 (by kernel_rfl) ((show _ = P_r05_Has (run cfg) x0 x1 by kernel_rfl).trans h)

/-! ### tree_CheckPat -/
noncomputable def code_tree_CheckPat : Code := Try.f33.body.getD .skip
noncomputable def P_tree_CheckPat (R : Orc) (x0 : DV) : Option DV := evP cfg R fl_tree_CheckPat (retP cfg.P Try.f33) [] code_tree_CheckPat (initSt Try.f33 [(x0, .val)] [])
noncomputable def P_tree_CheckPat_r0 (R : Orc) (t0 : DV) (t6 : DV) (sg : List SObj) : Option DV := evP cfg R fl_tree_CheckPat (retP cfg.P Try.f33) [true, true, false, true, false] code_tree_CheckPat ⟨spread .undef 32 0 [(0, t0), (4, (.tup [])), (6, t6), (8, (.tup [])), (9, (.tup [])), (10, (.tup [])), (11, (.tup [])), (12, (.tup [])), (13, (.tup [])), (14, (.tup [])), (15, (.tup [])), (16, (.tup [])), (17, (.tup [])), (18, (.tup [])), (19, (.tup [])), (20, (.tup [])), (21, (.tup [])), (22, (.tup [])), (23, (.tup [])), (24, (.tup [])), (25, (.tup [])), (26, (.tup [])), (27, (.tup [])), (28, (.tup [])), (29, (.tup [])), (30, (.tup [])), (31, (.tup []))], spread .val 32 0 [(1, (.ptr 0 0)), (2, (.ptr 1 0)), (3, (.ptr 3 0)), (5, (.map 2)), (7, (.fn 119 [(4, 0)]))], spread none 32 0 [], sg⟩
noncomputable def rcode_tree_CheckPat_r0 : Code := match (sub [true, true, false, true, false] code_tree_CheckPat []).1 with
  | .rangeFunc _ _ a b => .seq a b
  | c => c
noncomputable def X_tree_CheckPat_r0 (R : Orc) (t0 : DV) (t6 : DV) (o : Out) (sg : List SObj) : Option DV := konP cfg R fl_tree_CheckPat (retP cfg.P Try.f33) [true, true, false, true, false] code_tree_CheckPat o (outerSt ⟨spread .undef 32 0 [(0, t0), (4, (.tup [])), (6, t6), (8, (.tup [])), (9, (.tup [])), (10, (.tup [])), (11, (.tup [])), (12, (.tup [])), (13, (.tup [])), (14, (.tup [])), (15, (.tup [])), (16, (.tup [])), (17, (.tup [])), (18, (.tup [])), (19, (.tup [])), (20, (.tup [])), (21, (.tup [])), (22, (.tup [])), (23, (.tup [])), (24, (.tup [])), (25, (.tup [])), (26, (.tup [])), (27, (.tup [])), (28, (.tup [])), (29, (.tup [])), (30, (.tup [])), (31, (.tup []))], spread .val 32 0 [(1, (.ptr 0 0)), (2, (.ptr 1 0)), (3, (.ptr 3 0)), (5, (.map 2)), (7, (.fn 119 [(4, 0)]))], spread none 32 0 [], []⟩ sg)
noncomputable def B_tree_CheckPat_r0 (R : Orc) (t0 : DV) (t6 : DV) (I : List SObj → Option DV) (x : DV) (sg : List SObj) : Option DV := evP cfg R fl_tree_CheckPat (kr I (X_tree_CheckPat_r0 R t0 t6)) [] rcode_tree_CheckPat_r0 ⟨spread .undef 32 0 [(8, x)], spread .val 32 0 [(2, (.ptr 1 0)), (3, (.ptr 3 0))], spread none 32 0 [], sg⟩
noncomputable def I_tree_CheckPat_r0 (R : Orc) (t0 : DV) (t6 : DV) : List DV → List SObj → Option DV := foldIt (fun x I sg => B_tree_CheckPat_r0 R t0 t6 I x sg) (X_tree_CheckPat_r0 R t0 t6 .normal)
noncomputable def P_tree_CheckPat_6 (R : Orc) (t0 : DV) (t6 : DV) (I : List SObj → Option DV) (b4 : DV) (sg : List SObj) : Option DV := evP cfg R fl_tree_CheckPat (kr I (X_tree_CheckPat_r0 R t0 t6)) [true, false, true] rcode_tree_CheckPat_r0 ⟨spread .undef 32 0 [], spread .val 32 0 [(3, (.ptr 3 0)), (4, (.loc 4 0))], spread none 32 0 [(4, some [((proj 0 b4), .val), ((proj 1 b4), .val), ((proj 2 b4), .val), ((proj 3 b4), .val), ((proj 4 b4), .val), ((proj 5 b4), .val), ((proj 6 b4), .val)])], sg⟩
theorem eq_tree_CheckPat (R : Orc) (x0 : DV) : P_tree_CheckPat R x0 =
  (og (isAggN 7 x0) <|
  P_tree_CheckPat_r0 R x0 (.agg [(proj 0 x0), (proj 1 x0), (proj 2 x0), (proj 3 x0), (proj 4 x0), (proj 5 x0), (proj 6 x0)]) [SObj.box [((proj 0 x0), .val), ((proj 1 x0), .val), ((proj 2 x0), .val), ((proj 3 x0), .val), ((proj 4 x0), .val), ((proj 5 x0), .val), ((proj 6 x0), .val)], SObj.box [((.int .i64 0), .val)], .map true [], SObj.box [(.undef, (.map 2))], SObj.box [((proj 0 x0), .val), ((proj 1 x0), .val), ((proj 2 x0), .val), ((proj 3 x0), .val), ((proj 4 x0), .val), ((proj 5 x0), .val), ((proj 6 x0), .val)]]) := evP_of [6] (by kernel_rfl)
theorem eq_tree_CheckPat_r0 (R : Orc) (t0 : DV) (t6 : DV) (sg : List SObj) : P_tree_CheckPat_r0 R t0 t6 sg =
  ob (sgBox sg 4) fun cs => ob (allDat cs) fun cd => ob (flatD 7 6 cd) fun ds => I_tree_CheckPat_r0 R t0 t6 ds (sg.set 4 (.arr 1 [])) :=
  (rangeP2 (t := 7) (f := 119) (i := 4) (q := 8) (it := flatD 7 6) (by kernel_rfl) (by kernel_rfl) (by kernel_rfl) (by kernel_rfl)).trans (by kernel_rfl)
theorem I_tree_CheckPat_r0_nil (R : Orc) (t0 : DV) (t6 : DV) (sg : List SObj) : I_tree_CheckPat_r0 R t0 t6 [] sg = X_tree_CheckPat_r0 R t0 t6 .normal sg := rfl
theorem I_tree_CheckPat_r0_cons (R : Orc) (t0 : DV) (t6 : DV) (x : DV) (ds : List DV) (sg : List SObj) : I_tree_CheckPat_r0 R t0 t6 (x :: ds) sg = B_tree_CheckPat_r0 R t0 t6 (I_tree_CheckPat_r0 R t0 t6 ds) x sg := rfl
theorem eq_B_tree_CheckPat_r0 (R : Orc) (t0 : DV) (t6 : DV) (I : List SObj → Option DV) (x : DV) (sg : List SObj) : B_tree_CheckPat_r0 R t0 t6 I x sg =
  (og (isAggN 7 x) <|
  ob (R.p F_tree_onePat [(.agg [(proj 0 x), (proj 1 x), (proj 2 x), (proj 3 x), (proj 4 x), (proj 5 x), (proj 6 x)])]) fun d1 =>
  ob (dUn .not d1) fun d2 =>
  ogd d2
   (ob (sgBox sg 1) fun c3 =>
   ob (c3[0]?) fun u4 =>
   X_tree_CheckPat_r0 R t0 t6 .ret (sg.set 1 (SObj.box (c3.set 0 ((.int .i64 1), .val)))))
   (ob (dBin .eql (proj 0 x) (.int .i64 2)) fun d5 =>
   ogd d5
    (ob (sgBox sg 3) fun c6 =>
    ob (cellMap c6 0) fun i7 =>
    og (isKey true (proj 3 x) && true) <|
    ob (sgMap sg i7) fun m8 =>
    og (m8.1 == true) <|
    ob (dBin .gtr ((mGet m8.2 (proj 3 x)).getD (.int .i64 0)) (.int .i64 0)) fun d9 =>
    oif d9
     (ob (sgBox sg 1) fun c10 =>
     ob (c10[0]?) fun u11 =>
     X_tree_CheckPat_r0 R t0 t6 .ret (sg.set 1 (SObj.box (c10.set 0 ((.int .i64 1), .val)))))
     (P_tree_CheckPat_6 R t0 t6 I x sg))
    (P_tree_CheckPat_6 R t0 t6 I x sg)
    none)
   none) := evP_of [6] (by kernel_rfl)
theorem eq_X_tree_CheckPat_r0_normal (R : Orc) (t0 : DV) (t6 : DV) (sg : List SObj) : X_tree_CheckPat_r0 R t0 t6 .normal sg =
  (ob (sgBox sg 1) fun c1 =>
  ob (c1[0]?) fun u2 =>
  ret1 (ob (sgBox (sg.set 1 (SObj.box (c1.set 0 ((.int .i64 0), .val)))) 1) fun c => oneCell (sg.set 1 (SObj.box (c1.set 0 ((.int .i64 0), .val)))) c)) := konP_of [6] (by kernel_rfl)
theorem eq_X_tree_CheckPat_r0_ret (R : Orc) (t0 : DV) (t6 : DV) (sg : List SObj) : X_tree_CheckPat_r0 R t0 t6 .ret sg =
  (ret1 (ob (sgBox sg 1) fun c => oneCell sg c)) := konP_of [6] (by kernel_rfl)
theorem eq_tree_CheckPat_6 (R : Orc) (t0 : DV) (t6 : DV) (I : List SObj → Option DV) (b4 : DV) (sg : List SObj) : P_tree_CheckPat_6 R t0 t6 I b4 sg =
  (ob (dBin .eql (proj 0 b4) (.int .i64 2)) fun d1 =>
  oif d1
   (ob (sgBox sg 3) fun c2 =>
   ob (cellMap c2 0) fun i3 =>
   og (isKey true (proj 3 b4) && true) <|
   ob (sgMap sg i3) fun m4 =>
   og (m4.1 == true) <|
   ob (dBin .add ((mGet m4.2 (proj 3 b4)).getD (.int .i64 0)) (.int .i64 1)) fun d5 =>
   og (isKey true (proj 3 b4) && true && true) <|
   ob (sgMap sg i3) fun m6 =>
   og (m6.1 == true) <|
   I (sg.set i3 (.map true (mSet m6.2 (proj 3 b4) d5))))
   (I sg)) := evP_of [6] (by kernel_rfl)
theorem call_tree_CheckPat (x0 : DV) {d : DV} (h : P_tree_CheckPat (run cfg) x0 = some d) : (run cfg).p F_tree_CheckPat [x0] = some d :=
  run_pure (fn := Try.f33) (c := code_tree_CheckPat) (by kernel_rfl) Try.func33 (by kernel_rfl) ((show _ = P_tree_CheckPat (run cfg) x0 by kernel_rfl).trans h)

/-! ### r03_Leaf -/
noncomputable def code_r03_Leaf : Code := Try.f44.body.getD .skip
noncomputable def P_r03_Leaf (R : Orc) (x0 : DV) : Option DV := evP cfg R fl_r03_Leaf (retP cfg.P Try.f44) [] code_r03_Leaf (initSt Try.f44 [(x0, .val)] [])
theorem eq_r03_Leaf (R : Orc) (x0 : DV) : P_r03_Leaf R x0 =
  (og (isCell x0) <|
  some (.agg [x0, (.int .i64 0), (.list 3 [])])) := evP_of [] (by kernel_rfl)
theorem call_r03_Leaf (x0 : DV) {d : DV} (h : P_r03_Leaf (run cfg) x0 = some d) : (run cfg).p F_r03_Leaf [x0] = some d :=
  run_pure (fn := Try.f44) (c := code_r03_Leaf) (by kernel_rfl) Try.func44 (by kernel_rfl) ((show _ = P_r03_Leaf (run cfg) x0 by kernel_rfl).trans h)

/-! ### l17_weigh -/
noncomputable def code_l17_weigh : Code := Try.f48.body.getD .skip
noncomputable def P_l17_weigh (R : Orc) (x0 : DV) (x1 : DV) : Option DV := evP cfg R fl_l17_weigh (retP cfg.P Try.f48) [] code_l17_weigh (initSt Try.f48 [(x0, .val), (x1, .val)] [])
noncomputable def P_l17_weigh_5h (R : Orc) (t1 : DV) (t5 : DV) (b2 : DV) : Option DV := headP cfg R fl_l17_weigh (retP cfg.P Try.f48) [true, true, true, false, true, false] code_l17_weigh ⟨spread .undef 99 0 [(1, t1), (5, t5)], spread .val 99 0 [(2, (.loc 2 0))], spread none 99 0 [(2, some [((proj 0 b2), .val), ((proj 1 b2), .val), ((proj 2 b2), .val), ((proj 3 b2), .val), ((proj 4 b2), .val), ((proj 5 b2), .val), ((proj 6 b2), .val), ((proj 7 b2), .val), ((proj 8 b2), .val), ((proj 9 b2), .val), ((proj 10 b2), .val), ((proj 11 b2), .val), ((proj 12 b2), .val), ((proj 13 b2), .val), ((proj 14 b2), .val), ((proj 15 b2), .val), ((proj 16 b2), .val), ((proj 17 b2), .val), ((proj 18 b2), .val), ((proj 19 b2), .val)])], []⟩
noncomputable def P_l17_weigh_11h (R : Orc) (t1 : DV) (t6 : DV) (b2 : DV) : Option DV := headP cfg R fl_l17_weigh (retP cfg.P Try.f48) [true, true, true, true, false, true, false] code_l17_weigh ⟨spread .undef 99 0 [(1, t1), (6, t6)], spread .val 99 0 [(2, (.loc 2 0))], spread none 99 0 [(2, some [((proj 0 b2), .val), ((proj 1 b2), .val), ((proj 2 b2), .val), ((proj 3 b2), .val), ((proj 4 b2), .val), ((proj 5 b2), .val), ((proj 6 b2), .val), ((proj 7 b2), .val), ((proj 8 b2), .val), ((proj 9 b2), .val), ((proj 10 b2), .val), ((proj 11 b2), .val), ((proj 12 b2), .val), ((proj 13 b2), .val), ((proj 14 b2), .val), ((proj 15 b2), .val), ((proj 16 b2), .val), ((proj 17 b2), .val), ((proj 18 b2), .val), ((proj 19 b2), .val)])], []⟩
noncomputable def P_l17_weigh_15h (R : Orc) (t1 : DV) (t7 : DV) (b2 : DV) : Option DV := headP cfg R fl_l17_weigh (retP cfg.P Try.f48) [true, true, true, true, true, false, true, false] code_l17_weigh ⟨spread .undef 99 0 [(1, t1), (7, t7)], spread .val 99 0 [(2, (.loc 2 0))], spread none 99 0 [(2, some [((proj 0 b2), .val), ((proj 1 b2), .val), ((proj 2 b2), .val), ((proj 3 b2), .val), ((proj 4 b2), .val), ((proj 5 b2), .val), ((proj 6 b2), .val), ((proj 7 b2), .val), ((proj 8 b2), .val), ((proj 9 b2), .val), ((proj 10 b2), .val), ((proj 11 b2), .val), ((proj 12 b2), .val), ((proj 13 b2), .val), ((proj 14 b2), .val), ((proj 15 b2), .val), ((proj 16 b2), .val), ((proj 17 b2), .val), ((proj 18 b2), .val), ((proj 19 b2), .val)])], []⟩
set_option maxRecDepth 100000 in
theorem eq_l17_weigh (R : Orc) (x0 : DV) (x1 : DV) : P_l17_weigh R x0 x1 =
  (og (isAggN 20 x0) <|
  ob (dBin .add x1 (.int .i64 1)) fun d1 =>
  ob (dLen (proj 10 x0)) fun d2 =>
  ob (dBin .add d1 d2) fun d3 =>
  ob (dLenS (proj 6 x0)) fun d4 =>
  ob (dBin .gtr d4 (.int .i64 300)) fun d5 =>
  ogd d5
   (some (.int .i64 501))
   (ob (dLenS (proj 3 x0)) fun d6 =>
   ob (dBin .gtr d6 (.int .i64 300)) fun d7 =>
   ogd d7
    (some (.int .i64 501))
    (ob (dLenS (proj 4 x0)) fun d8 =>
    ob (dBin .gtr d8 (.int .i64 300)) fun d9 =>
    ogd d9
     (some (.int .i64 501))
     (ob (R.p F_l17_light [(.agg [(proj 11 x0), (proj 12 x0), (proj 13 x0)])]) fun d10 =>
     ob (dUn .not d10) fun d11 =>
     ogd d11
      (some (.int .i64 501))
      (ob (R.p F_l17_light [(.agg [(proj 14 x0), (proj 15 x0), (proj 16 x0)])]) fun d12 =>
      ob (dUn .not d12) fun d13 =>
      oif d13
       (some (.int .i64 501))
       (P_l17_weigh_5h R d3 (.int .i64 0) x0))
      none)
     none)
    none)
   none) := evP_of [] (by kernel_rfl)
theorem eq_l17_weigh_5h (R : Orc) (t1 : DV) (t5 : DV) (b2 : DV) : P_l17_weigh_5h R t1 t5 b2 =
  (ob (dLen (proj 17 b2)) fun d1 =>
  ob (dBin .lss t5 d1) fun d2 =>
  ogd d2
   (ob (dBin .leq t1 (.int .i64 500)) fun d3 =>
   oif d3
    (ob (dBin .add t1 (.int .i64 1)) fun d4 =>
    ob (dIdx 3 (proj 17 b2) t5) fun d5 =>
    ob (R.p F_l17_light [(.agg [(proj 0 d5), (proj 1 d5), (proj 2 d5)])]) fun d6 =>
    ob (dUn .not d6) fun d7 =>
    oif d7
     (some (.int .i64 501))
     (ob (dBin .add t5 (.int .i64 1)) fun d8 =>
     P_l17_weigh_5h R d4 d8 b2))
    (P_l17_weigh_11h R t1 (.int .i64 0) b2))
   (P_l17_weigh_11h R t1 (.int .i64 0) b2)
   none) := headP_of [] (by kernel_rfl)
theorem eq_l17_weigh_11h (R : Orc) (t1 : DV) (t6 : DV) (b2 : DV) : P_l17_weigh_11h R t1 t6 b2 =
  (ob (dLen (proj 18 b2)) fun d1 =>
  ob (dBin .lss t6 d1) fun d2 =>
  ogd d2
   (ob (dBin .leq t1 (.int .i64 500)) fun d3 =>
   oif d3
    (ob (dIdx 7 (proj 18 b2) t6) fun d4 =>
    ob (R.p F_l17_weighPat [(.agg [(proj 0 d4), (proj 1 d4), (proj 2 d4), (proj 3 d4), (proj 4 d4), (proj 5 d4), (proj 6 d4)]), t1]) fun d5 =>
    ob (dBin .add t6 (.int .i64 1)) fun d6 =>
    P_l17_weigh_11h R d5 d6 b2)
    (P_l17_weigh_15h R t1 (.int .i64 0) b2))
   (P_l17_weigh_15h R t1 (.int .i64 0) b2)
   none) := headP_of [] (by kernel_rfl)
theorem eq_l17_weigh_15h (R : Orc) (t1 : DV) (t7 : DV) (b2 : DV) : P_l17_weigh_15h R t1 t7 b2 =
  (ob (dLen (proj 19 b2)) fun d1 =>
  ob (dBin .lss t7 d1) fun d2 =>
  ogd d2
   (ob (dBin .leq t1 (.int .i64 500)) fun d3 =>
   oif d3
    (ob (dIdx 20 (proj 19 b2) t7) fun d4 =>
    ob (R.p F_l17_weigh [(.agg [(proj 0 d4), (proj 1 d4), (proj 2 d4), (proj 3 d4), (proj 4 d4), (proj 5 d4), (proj 6 d4), (proj 7 d4), (proj 8 d4), (proj 9 d4), (proj 10 d4), (proj 11 d4), (proj 12 d4), (proj 13 d4), (proj 14 d4), (proj 15 d4), (proj 16 d4), (proj 17 d4), (proj 18 d4), (proj 19 d4)]), t1]) fun d5 =>
    ob (dBin .add t7 (.int .i64 1)) fun d6 =>
    P_l17_weigh_15h R d5 d6 b2)
    (some t1))
   (some t1)
   none) := headP_of [] (by kernel_rfl)
theorem call_l17_weigh (x0 : DV) (x1 : DV) {d : DV} (h : P_l17_weigh (run cfg) x0 x1 = some d) : (run cfg).p F_l17_weigh [x0, x1] = some d :=
  run_pure (fn := Try.f48) (c := code_l17_weigh) (by kernel_rfl) Try.func48 (by kernel_rfl) ((show _ = P_l17_weigh (run cfg) x0 x1 by kernel_rfl).trans h)

end Go.Su
