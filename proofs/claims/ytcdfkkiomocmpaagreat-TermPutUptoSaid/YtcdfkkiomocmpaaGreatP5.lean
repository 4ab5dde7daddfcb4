/-
  Parts of the proof, merged: G3, G4, G5, G6, G7, G8, T0, QT50, T50, QT51, T51, QT52.
-/
import Derived.Test.YtcdfkkiomocmpaaGreatP3
import Derived.Test.YtcdfkkiomocmpaaGreatP4
set_option linter.unusedVariables false
set_option linter.unusedSimpArgs false
/-
 Equations of the program's functions: by program.
-/
namespace Go.Su
open Go.Proofs
set_option linter.unusedVariables false
noncomputable def P_l03_Heavy (R : Orc) (x0 : DV) : Option DV := eP Tryz.f31 fl_l03_Heavy R [] (initSt Tryz.f31 [(x0, .val)] [])
noncomputable def P_l03_Heavy_3h (R : Orc) (t0 t3 t4 : DV) : Option DV := hP Tryz.f31 fl_l03_Heavy R [true, true, false, true, false] (mst 19 [(0, t0), (3, t3), (4, t4)] [] [] [])
theorem eq_l03_Heavy (R : Orc) (x0 : DV) : P_l03_Heavy R x0 =
 (P_l03_Heavy_3h R x0 (.int .i64 0) (.int .i64 0)) := evP_of [] (by kernel_rfl)
theorem eq_l03_Heavy_3h (R : Orc) (t0 t3 t4 : DV) : P_l03_Heavy_3h R t0 t3 t4 =
 (ob (dLen t0) fun d1 => ob (dBin .lss t4 d1) fun d2 => oif d2 (ob (dIdx 3 t0 t4) fun d3 => ob (R.p F_l03_count [(ag3 d3), t3]) fun d4 => ob (dBin .add t4 (.int .i64 1)) fun d5 => P_l03_Heavy_3h R t0 d4 d5) (ob (dBin .gtr t3 (.int .i64 600)) fun d6 => some d6)) := headP_of [] (by kernel_rfl)
theorem call_l03_Heavy (x0 : DV) {d : DV} (h : P_l03_Heavy (run cfg) x0 = some d) : (run cfg).p F_l03_Heavy [x0] = some d := callE Tryz.func31 (by kernel_rfl) (by kernel_rfl) (by kernel_rfl) h
noncomputable def P_r08_Deep (R : Orc) (x0 x1 : DV) : Option DV := eP Tryz.f32 fl_r08_Deep R [] (initSt Tryz.f32 [(x0, .val), (x1, .val)] [])
noncomputable def P_r08_Deep_4h (R : Orc) (t1 t5 b2 : DV) : Option DV := hP Tryz.f32 fl_r08_Deep R [true, true, false, true, false] (mst 23 [(1, t1), (5, t5)] [(2, (.loc 2 0))] [(2, some (bxs b2 0 3))] [])
theorem eq_r08_Deep (R : Orc) (x0 x1 : DV) : P_r08_Deep R x0 x1 =
 (og (isAggN 3 x0) <| ob (dBin .leq x1 (.int .i64 0)) fun d1 => oif d1 (some (.bool true)) (P_r08_Deep_4h R x1 (.int .i64 0) x0)) := evP_of [] (by kernel_rfl)
theorem eq_r08_Deep_4h (R : Orc) (t1 t5 b2 : DV) : P_r08_Deep_4h R t1 t5 b2 =
 (ob (dLen (proj 2 b2)) fun d1 => ob (dBin .lss t5 d1) fun d2 => oif d2 (ob (dIdx 3 (proj 2 b2) t5) fun d3 => ob (dBin .sub t1 (.int .i64 1)) fun d4 => ob (R.p F_r08_Deep [(ag3 d3), d4]) fun d5 => oif d5 (some (.bool true)) (ob (dBin .add t5 (.int .i64 1)) fun d6 => P_r08_Deep_4h R t1 d6 b2)) (some (.bool false))) := headP_of [] (by kernel_rfl)
theorem call_r08_Deep (x0 x1 : DV) {d : DV} (h : P_r08_Deep (run cfg) x0 x1 = some d) : (run cfg).p F_r08_Deep [x0, x1] = some d := callE Tryz.func32 (by kernel_rfl) (by kernel_rfl) (by kernel_rfl) h
noncomputable def P_r03_Vars (R : Orc) (x0 : DV) : Option DV := eP Tryz.f33 fl_r03_Vars R [] (initSt Tryz.f33 [(x0, .val)] [])
theorem eq_r03_Vars (R : Orc) (x0 : DV) : P_r03_Vars R x0 =
 (og (isAggN 3 x0) <| ob (R.r F_r03_vars [((ag3 x0), .val), ((.list 1 []), .own)] []) fun q1 => some (q1.1.getD 0 .undef)) := evP_of [] (by kernel_rfl)
theorem call_r03_Vars (x0 : DV) {d : DV} (h : P_r03_Vars (run cfg) x0 = some d) : (run cfg).p F_r03_Vars [x0] = some d := callE Tryz.func33 (by kernel_rfl) (by kernel_rfl) (by kernel_rfl) h
noncomputable def P_r03_Kids (R : Orc) (x0 : DV) : Option DV := eP Tryz.f34 fl_r03_Kids R [] (initSt Tryz.f34 [(x0, .val)] [])
theorem eq_r03_Kids (R : Orc) (x0 : DV) : P_r03_Kids R x0 =
 (ob (dBin .eql x0 (.int .i64 1)) fun d1 => oif d1 (some (.int .i64 0)) (ob (dBin .eql x0 (.int .i64 2)) fun d2 => oif d2 (some (.int .i64 0)) (ob (dBin .eql x0 (.int .i64 3)) fun d3 => oif d3 (some (.int .i64 0)) (ob (dBin .eql x0 (.int .i64 4)) fun d4 => oif d4 (some (.int .i64 0)) (ob (dBin .eql x0 (.int .i64 5)) fun d5 => oif d5 (some (.int .i64 0)) (ob (dBin .eql x0 (.int .i64 6)) fun d6 => oif d6 (some (.int .i64 0)) (ob (dBin .eql x0 (.int .i64 8)) fun d7 => oif d7 (some (.int .i64 1)) (ob (dBin .eql x0 (.int .i64 7)) fun d8 => oif d8 (some (.int .i64 2)) (ob (dBin .eql x0 (.int .i64 9)) fun d9 => oif d9 (some (.int .i64 2)) (some (.int .i64 (-1)))))))))))) := evP_of [] (by kernel_rfl)
theorem call_r03_Kids (x0 : DV) {d : DV} (h : P_r03_Kids (run cfg) x0 = some d) : (run cfg).p F_r03_Kids [x0] = some d := callE Tryz.func34 (by kernel_rfl) (by kernel_rfl) (by kernel_rfl) h
noncomputable def P_term_right (R : Orc) (x0 : DV) : Option DV := eP Tryz.f37 fl_term_right R [] (initSt Tryz.f37 [(x0, .val)] [])
noncomputable def P_term_right_4h (R : Orc) (t9 t10 t11 : DV) : Option DV := hP Tryz.f37 fl_term_right R [true, true, false, true, false] (mst 19 [(9, t9), (10, t10), (11, t11)] [] [] [])
theorem eq_term_right (R : Orc) (x0 : DV) : P_term_right R x0 =
 (og (isAggN 20 x0) <| ob (R.p F_term_one [(ag20 x0)]) fun d1 => ob (dUn .not d1) fun d2 => oif d2 (some (.bool false)) (ob (dLen (proj 19 x0)) fun d3 => P_term_right_4h R (proj 19 x0) d3 (.int .i64 0))) := evP_of [] (by kernel_rfl)
theorem eq_term_right_4h (R : Orc) (t9 t10 t11 : DV) : P_term_right_4h R t9 t10 t11 =
 (ob (dBin .lss t11 t10) fun d1 => oif d1 (ob (dIdx 20 t9 t11) fun d2 => ob (R.p F_term_right [(ag20 d2)]) fun d3 => ob (dUn .not d3) fun d4 => oif d4 (some (.bool false)) (ob (dBin .add t11 (.int .i64 1)) fun d5 => P_term_right_4h R t9 t10 d5)) (some (.bool true))) := headP_of [] (by kernel_rfl)
theorem call_term_right (x0 : DV) {d : DV} (h : P_term_right (run cfg) x0 = some d) : (run cfg).p F_term_right [x0] = some d := callE Tryz.func37 (by kernel_rfl) (by kernel_rfl) (by kernel_rfl) h
noncomputable def P_term_types (R : Orc) (x0 x1 : DV) : Option DV := eP Tryz.f39 fl_term_types R [] (initSt Tryz.f39 [(x0, .val), (x1, .val)] [])
noncomputable def P_term_types_3h (R : Orc) (t1 : DV) (t18r3 : Nat) (t19 t20 b2_0 b2_1 b2_2 b2_3 b2_4 b2_5 b2_6 b2_7 b2_8 b2_9 b2_10 b2_11 b2_12 b2_13 b2_14 b2_15 b2_16 : DV) (b2_17r3 : Nat) (b2_18 : DV) (b2_19r3 : Nat) (sg : List SObj) : Option DV := hP Tryz.f39 fl_term_types R [true, true, false, true, false] (mst 69 [(1, t1), (19, t19), (20, t20)] [(2, (.loc 2 0)), (4, (.loc 4 0)), (18, (.arr 0 3 0 t18r3))] [(2, some [(b2_0, .val), (b2_1, .val), (b2_2, .val), (b2_3, .val), (b2_4, .val), (b2_5, .val), (b2_6, .val), (b2_7, .val), (b2_8, .val), (b2_9, .val), (b2_10, .val), (b2_11, .val), (b2_12, .val), (b2_13, .val), (b2_14, .val), (b2_15, .val), (b2_16, .val), (.undef, (.arr 0 3 0 b2_17r3)), (b2_18, .val), (.undef, (.arr 1 20 0 b2_19r3))]), (4, some zb0)] sg)
noncomputable def P_term_types_8h (R : Orc) (t1 : DV) (t34r3 : Nat) (t35 t36 b2_0 b2_1 b2_2 b2_3 b2_4 b2_5 b2_6 b2_7 b2_8 b2_9 b2_10 b2_11 b2_12 b2_13 b2_14 b2_15 b2_16 : DV) (b2_17r3 : Nat) (b2_18 : DV) (b2_19r3 : Nat) (sg : List SObj) : Option DV := hP Tryz.f39 fl_term_types R [true, true, true, false, true, false] (mst 69 [(1, t1), (35, t35), (36, t36)] [(2, (.loc 2 0)), (4, (.loc 4 0)), (34, (.arr 1 20 0 t34r3))] [(2, some [(b2_0, .val), (b2_1, .val), (b2_2, .val), (b2_3, .val), (b2_4, .val), (b2_5, .val), (b2_6, .val), (b2_7, .val), (b2_8, .val), (b2_9, .val), (b2_10, .val), (b2_11, .val), (b2_12, .val), (b2_13, .val), (b2_14, .val), (b2_15, .val), (b2_16, .val), (.undef, (.arr 0 3 0 b2_17r3)), (b2_18, .val), (.undef, (.arr 1 20 0 b2_19r3))]), (4, some zb0)] sg)
noncomputable def P_term_types_14 (R : Orc) (t1 b2_0 b2_1 b2_2 b2_3 b2_4 b2_5 b2_6 b2_7 b2_8 b2_9 b2_10 b2_11 b2_12 b2_13 b2_14 b2_15 b2_16 : DV) (b2_17r3 : Nat) (b2_18 : DV) (b2_19r3 : Nat) (sg : List SObj) : Option DV := eP Tryz.f39 fl_term_types R [true, true, true, true, true] (mst 69 [(1, t1)] [(2, (.loc 2 0)), (4, (.loc 4 0))] [(2, some [(b2_0, .val), (b2_1, .val), (b2_2, .val), (b2_3, .val), (b2_4, .val), (b2_5, .val), (b2_6, .val), (b2_7, .val), (b2_8, .val), (b2_9, .val), (b2_10, .val), (b2_11, .val), (b2_12, .val), (b2_13, .val), (b2_14, .val), (b2_15, .val), (b2_16, .val), (.undef, (.arr 0 3 0 b2_17r3)), (b2_18, .val), (.undef, (.arr 1 20 0 b2_19r3))]), (4, some zb0)] sg)
theorem eq_term_types (R : Orc) (x0 x1 : DV) : P_term_types R x0 x1 =
 (og (isAggN 20 x0) <| ob (dList (proj 17 x0)) fun p1 => og (true && p1.1 == 3 && decide (p1.2.length ≤ lim)) <| ob (dList (proj 19 x0)) fun p2 => og (true && p2.1 == 20 && decide (p2.2.length ≤ lim)) <| P_term_types_3h R x1 (p1.2.length) (.int .i64 p1.2.length) (.int .i64 0) (proj 0 x0) (proj 1 x0) (proj 2 x0) (proj 3 x0) (proj 4 x0) (proj 5 x0) (proj 6 x0) (proj 7 x0) (proj 8 x0) (proj 9 x0) (proj 10 x0) (proj 11 x0) (proj 12 x0) (proj 13 x0) (proj 14 x0) (proj 15 x0) (proj 16 x0) (p1.2.length) (proj 18 x0) (p2.2.length) [.arr 3 p1.2, .arr 20 p2.2]) := evP_of [14] (by kernel_rfl)
theorem eq_term_types_3h (R : Orc) (t1 : DV) (t18r3 : Nat) (t19 t20 b2_0 b2_1 b2_2 b2_3 b2_4 b2_5 b2_6 b2_7 b2_8 b2_9 b2_10 b2_11 b2_12 b2_13 b2_14 b2_15 b2_16 : DV) (b2_17r3 : Nat) (b2_18 : DV) (b2_19r3 : Nat) (sg : List SObj) : P_term_types_3h R t1 t18r3 t19 t20 b2_0 b2_1 b2_2 b2_3 b2_4 b2_5 b2_6 b2_7 b2_8 b2_9 b2_10 b2_11 b2_12 b2_13 b2_14 b2_15 b2_16 b2_17r3 b2_18 b2_19r3 sg =
 (ob (dBin .lss t20 t19) fun d1 => oif d1 (ob (arrIdx 0 t18r3 t20) fun n2 => ob (sgArr sg 0) fun r3 => ob (r3.2[n2]?) fun d4 => og (r3.1 == 3) <| ob (R.p F_term_put [(ag3 d4), t1]) fun d5 => ob (arrIdx 0 b2_17r3 t20) fun n6 => ob (sgArr sg 0) fun r7 => ob (r7.2[n6]?) fun u8 => og (isAggN 3 d5) <| og (r7.1 == 3) <| ob (dBin .add t20 (.int .i64 1)) fun d9 => P_term_types_3h R t1 t18r3 t19 d9 b2_0 b2_1 b2_2 b2_3 b2_4 b2_5 b2_6 b2_7 b2_8 b2_9 b2_10 b2_11 b2_12 b2_13 b2_14 b2_15 b2_16 b2_17r3 b2_18 b2_19r3 (sg.set 0 (.arr 3 (r7.2.set n6 d5)))) (P_term_types_8h R t1 b2_19r3 (.int .i64 b2_19r3) (.int .i64 0) b2_0 b2_1 b2_2 b2_3 b2_4 b2_5 b2_6 b2_7 b2_8 b2_9 b2_10 b2_11 b2_12 b2_13 b2_14 b2_15 b2_16 b2_17r3 b2_18 b2_19r3 sg)) := headP_of [14] (by kernel_rfl)
theorem eq_term_types_8h (R : Orc) (t1 : DV) (t34r3 : Nat) (t35 t36 b2_0 b2_1 b2_2 b2_3 b2_4 b2_5 b2_6 b2_7 b2_8 b2_9 b2_10 b2_11 b2_12 b2_13 b2_14 b2_15 b2_16 : DV) (b2_17r3 : Nat) (b2_18 : DV) (b2_19r3 : Nat) (sg : List SObj) : P_term_types_8h R t1 t34r3 t35 t36 b2_0 b2_1 b2_2 b2_3 b2_4 b2_5 b2_6 b2_7 b2_8 b2_9 b2_10 b2_11 b2_12 b2_13 b2_14 b2_15 b2_16 b2_17r3 b2_18 b2_19r3 sg =
 (ob (dBin .lss t36 t35) fun d1 => oif d1 (ob (arrIdx 0 t34r3 t36) fun n2 => ob (sgArr sg 1) fun r3 => ob (r3.2[n2]?) fun d4 => og (r3.1 == 20) <| ob (R.p F_term_outside [(.agg [b2_0, b2_1, b2_2, b2_3, b2_4, b2_5, b2_6, b2_7, b2_8, b2_9, b2_10, b2_11, b2_12, b2_13, b2_14, b2_15, b2_16, .undef, b2_18, .undef]), t36, t1]) fun d5 => ob (R.p F_term_types [(ag20 d4), d5]) fun d6 => ob (arrIdx 0 b2_19r3 t36) fun n7 => ob (sgArr sg 1) fun r8 => ob (r8.2[n7]?) fun u9 => og (isAggN 20 d6) <| og (r8.1 == 20) <| ob (dBin .add t36 (.int .i64 1)) fun d10 => P_term_types_8h R t1 t34r3 t35 d10 b2_0 b2_1 b2_2 b2_3 b2_4 b2_5 b2_6 b2_7 b2_8 b2_9 b2_10 b2_11 b2_12 b2_13 b2_14 b2_15 b2_16 b2_17r3 b2_18 b2_19r3 (sg.set 1 (.arr 20 (r8.2.set n7 d6)))) (ob (dBin .eql b2_0 (.int .i64 12)) fun d11 => oif d11 (ob (R.p F_term_outside [(.agg [b2_0, b2_1, b2_2, b2_3, b2_4, b2_5, b2_6, b2_7, b2_8, b2_9, b2_10, b2_11, b2_12, b2_13, b2_14, b2_15, b2_16, .undef, b2_18, .undef]), (.int .i64 0), t1]) fun d12 => P_term_types_14 R d12 b2_0 b2_1 b2_2 b2_3 b2_4 b2_5 b2_6 b2_7 b2_8 b2_9 b2_10 b2_11 b2_12 b2_13 b2_14 b2_15 b2_16 b2_17r3 b2_18 b2_19r3 sg) (P_term_types_14 R t1 b2_0 b2_1 b2_2 b2_3 b2_4 b2_5 b2_6 b2_7 b2_8 b2_9 b2_10 b2_11 b2_12 b2_13 b2_14 b2_15 b2_16 b2_17r3 b2_18 b2_19r3 sg))) := headP_of [14] (by kernel_rfl)
theorem eq_term_types_14 (R : Orc) (t1 b2_0 b2_1 b2_2 b2_3 b2_4 b2_5 b2_6 b2_7 b2_8 b2_9 b2_10 b2_11 b2_12 b2_13 b2_14 b2_15 b2_16 : DV) (b2_17r3 : Nat) (b2_18 : DV) (b2_19r3 : Nat) (sg : List SObj) : P_term_types_14 R t1 b2_0 b2_1 b2_2 b2_3 b2_4 b2_5 b2_6 b2_7 b2_8 b2_9 b2_10 b2_11 b2_12 b2_13 b2_14 b2_15 b2_16 b2_17r3 b2_18 b2_19r3 sg =
 (ob (R.p F_term_put [(.agg [b2_11, b2_12, b2_13]), t1]) fun d1 => ob (R.p F_term_put [(.agg [b2_14, b2_15, b2_16]), t1]) fun d2 => og (isAggN 3 d1) <| og (isAggN 3 d2) <| retL [ob (sealCells sg [(b2_0, .val), (b2_1, .val), (b2_2, .val), (b2_3, .val), (b2_4, .val), (b2_5, .val), (b2_6, .val), (b2_7, .val), (b2_8, .val), (b2_9, .val), (b2_10, .val), ((proj 0 d1), .val), ((proj 1 d1), .val), ((proj 2 d1), .val), ((proj 0 d2), .val), ((proj 1 d2), .val), ((proj 2 d2), .val), (.undef, (.arr 0 3 0 b2_17r3)), (b2_18, .val), (.undef, (.arr 1 20 0 b2_19r3))]) fun ds => some (.agg ds)]) := evP_of [14] (by kernel_rfl)
theorem call_term_types (x0 x1 : DV) {d : DV} (h : P_term_types (run cfg) x0 x1 = some d) : (run cfg).p F_term_types [x0, x1] = some d := callE Tryz.func39 (by kernel_rfl) (by kernel_rfl) (by kernel_rfl) h
noncomputable def P_typ_Check (R : Orc) (x0 : DV) : Option DV := eP Tryz.f40 fl_typ_Check R [] (initSt Tryz.f40 [(x0, .val)] [])
theorem eq_typ_Check (R : Orc) (x0 : DV) : P_typ_Check R x0 =
 (og (isAggN 3 x0) <| ob (R.p F_typ_right [(ag3 x0)]) fun d1 => ob (dUn .not d1) fun d2 => oif d2 (some (.int .i64 1)) (some (.int .i64 0))) := evP_of [] (by kernel_rfl)
theorem call_typ_Check (x0 : DV) {d : DV} (h : P_typ_Check (run cfg) x0 = some d) : (run cfg).p F_typ_Check [x0] = some d := callE Tryz.func40 (by kernel_rfl) (by kernel_rfl) (by kernel_rfl) h
noncomputable def code_scheme_put : Code := Tryz.f41.body.getD .skip
noncomputable def P_scheme_put (R : Orc) (x0 x1 : DV) (x2 : Nat) (sg : List SObj) : Option (List DV × List SObj) := evP cfg R fl_scheme_put (retR cfg.P Tryz.f41 sig_scheme_put) [] code_scheme_put (initSt Tryz.f41 [(x0, .val), (x1, .val), (.undef, (.map x2))] sg)
noncomputable def P_scheme_put_10h (R : Orc) (t1 : DV) (t2i : Nat) (t38 t39 t40 b9_0 b9_2 : DV) (sg : List SObj) : Option (List DV × List SObj) := headP cfg R fl_scheme_put (retR cfg.P Tryz.f41 sig_scheme_put) [true, true, true, true, false, true, false] code_scheme_put (mst 55 [(1, t1), (38, t38), (39, t39), (40, t40)] [(2, (.map t2i)), (6, (.loc 6 0)), (9, (.loc 9 0))] [(6, some zb1), (9, some [(b9_0, .val), ((.int .i64 0), .val), (b9_2, .own)])] sg)
theorem eq_scheme_put (R : Orc) (x0 x1 : DV) (x2 : Nat) (sg : List SObj) : P_scheme_put R x0 x1 x2 sg =
 (og (isAggN 3 x0) <| ob (dBin .eql (proj 0 x0) (.int .i64 6)) fun d1 => oif d1 (og (isKey false (proj 1 x0) && true) <| ob (sgMap sg x2) fun m2 => og (m2.1 == false) <| oif (.bool (mGet m2.2 (proj 1 x0)).isSome) (ob (dIdx 4 x1 ((mGet m2.2 (proj 1 x0)).getD (.int .i64 0))) fun d3 => some ([(.agg [(proj 1 d3), (proj 2 d3), (proj 3 d3)])], sg)) (some ([(ag3 x0)], sg))) (ob (dLen (proj 2 x0)) fun d4 => ob (dBin .eql d4 (.int .i64 0)) fun d5 => oif d5 (some ([(ag3 x0)], sg)) (og (isCell (proj 0 x0)) <| ob (dLen (proj 2 x0)) fun d6 => P_scheme_put_10h R x1 x2 (proj 2 x0) d6 (.int .i64 0) (proj 0 x0) (.list 3 []) sg))) := evP_of [] (by kernel_rfl)
theorem eq_scheme_put_10h (R : Orc) (t1 : DV) (t2i : Nat) (t38 t39 t40 b9_0 b9_2 : DV) (sg : List SObj) : P_scheme_put_10h R t1 t2i t38 t39 t40 b9_0 b9_2 sg =
 (ob (dBin .lss t40 t39) fun d1 => oif d1 (ob (dIdx 3 t38 t40) fun d2 => ob (R.r F_scheme_put [((ag3 d2), .val), (t1, .val), (.undef, (.map t2i))] sg) fun q3 => og (isAggN 3 (q3.1.getD 0 .undef)) <| ob (dApp 3 b9_2 (.list 3 [(q3.1.getD 0 .undef)])) fun d4 => ob (dBin .add t40 (.int .i64 1)) fun d5 => P_scheme_put_10h R t1 t2i t38 t39 d5 b9_0 d4 q3.2) (some ([(.agg [b9_0, (.int .i64 0), b9_2])], sg))) := headP_of [] (by kernel_rfl)
theorem fix_scheme_put (x0 x1 : DV) (x2 : Nat) (sg : List SObj) : (run cfg).r F_scheme_put [(x0, .val), (x1, .val), (.undef, (.map x2))] sg = P_scheme_put (run cfg) x0 x1 x2 sg :=
 (fix_raw (C := cfg) (f := F_scheme_put) (s := sig_scheme_put) (fn := Tryz.f41) (c := code_scheme_put) (by kernel_rfl) Tryz.func41 (by kernel_rfl)).trans (by kernel_rfl)
theorem call_scheme_put (x0 x1 : DV) (x2 : Nat) (sg : List SObj) {q : List DV × List SObj} (h : P_scheme_put (run cfg) x0 x1 x2 sg = some q) : (run cfg).r F_scheme_put [(x0, .val), (x1, .val), (.undef, (.map x2))] sg = some q := (fix_scheme_put x0 x1 x2 sg).trans h
noncomputable def P_word_Name (R : Orc) (x0 : DV) : Option DV := eP Tryz.f42 fl_word_Name R [] (initSt Tryz.f42 [(x0, .val)] [])
noncomputable def P_word_Name_4h (R : Orc) (t0 t3 : DV) : Option DV := hP Tryz.f42 fl_word_Name R [true, true, false, true, false] (mst 37 [(0, t0), (3, t3)] [] [] [])
set_option maxRecDepth 100000 in
theorem eq_word_Name (R : Orc) (x0 : DV) : P_word_Name R x0 =
 (ob (dLenS x0) fun d1 => ob (dBin .lss d1 (.int .i64 1)) fun d2 => ogd d2 (some (.bool false)) (ob (dLenS x0) fun d3 => ob (dBin .gtr d3 (.int .i64 32)) fun d4 => ogd d4 (some (.bool false)) (ob (dStrIdx x0 (.int .i64 0)) fun d5 => ob (dBin .lss d5 (.int .u8 97)) fun d6 => ogd d6 (some (.bool false)) (ob (dStrIdx x0 (.int .i64 0)) fun d7 => ob (dBin .gtr d7 (.int .u8 122)) fun d8 => ogd d8 (some (.bool false)) (ob (R.p F_word_Key [x0]) fun d9 => oif d9 (some (.bool false)) (P_word_Name_4h R x0 (.int .i64 1))) none) none) none) none) := evP_of [] (by kernel_rfl)
theorem eq_word_Name_4h (R : Orc) (t0 t3 : DV) : P_word_Name_4h R t0 t3 =
 (ob (dLenS t0) fun d1 => ob (dBin .lss t3 d1) fun d2 => oif d2 (ob (dStrIdx t0 t3) fun d3 => ob (R.p F_word_inner [d3]) fun d4 => ob (dUn .not d4) fun d5 => oif d5 (some (.bool false)) (ob (dBin .add t3 (.int .i64 1)) fun d6 => P_word_Name_4h R t0 d6)) (some (.bool true))) := headP_of [] (by kernel_rfl)
theorem call_word_Name (x0 : DV) {d : DV} (h : P_word_Name (run cfg) x0 = some d) : (run cfg).p F_word_Name [x0] = some d := callE Tryz.func42 (by kernel_rfl) (by kernel_rfl) (by kernel_rfl) h
noncomputable def P_term_Free (R : Orc) (x0 : DV) : Option DV := evP cfg R fl_term_Free (keyK cfg R fl_term_Free kp_term_Free cut_term_Free.post (retP cfg.P Tryz.f43)) [] (seqs cut_term_Free.pre .skip) (initSt Tryz.f43 [(x0, .val)] [])
theorem eq_term_Free (R : Orc) (x0 : DV) : P_term_Free R x0 =
 (og (isAggN 20 x0) <| ob (R.p F_term_right [(ag20 x0)]) fun d1 => ob (dUn .not d1) fun d2 => oif d2 (some (.list 1 [])) (ob (R.r F_term_free [((ag20 x0), .val), (.undef, (.map 1)), (.undef, (.map 0))] [.map true [], .map true []]) fun q3 => ob (sgMap q3.2 0) fun m4 => og (m4.1 && true && true) <| if m4.2.length ≤ lim then (some (sortKeys m4.2)) else none)) := evP_of [] (by kernel_rfl)
theorem fix_term_Free (x0 : DV) : (run cfg).p F_term_Free [x0] = P_term_Free (run cfg) x0 :=
 (fix_cut (C := cfg) (f := F_term_Free) (fn := Tryz.f43) (c := kc_term_Free) (p := cut_term_Free) rfl Tryz.func43 (by kernel_rfl)).trans ((congrArg (fun k => evP cfg (run cfg) fl_term_Free k [] (seqs cut_term_Free.pre .skip) (initSt Tryz.f43 ([x0].map fun d => (d, .val)) [])) (keyK_eq (q := kp_term_Free) (p := cut_term_Free) (by kernel_rfl))).trans (by kernel_rfl))
theorem call_term_Free (x0 : DV) {d : DV} (h : P_term_Free (run cfg) x0 = some d) : (run cfg).p F_term_Free [x0] = some d := (fix_term_Free x0).trans h
noncomputable def P_term_For (R : Orc) (x0 x1 x2 x3 : DV) : Option DV := eP Tryz.f44 fl_term_For R [] (initSt Tryz.f44 [(x0, .val), (x1, .val), (x2, .val), (x3, .val)] [])
theorem eq_term_For (R : Orc) (x0 x1 x2 x3 : DV) : P_term_For R x0 x1 x2 x3 =
 (og (isAggN 20 x0) <| og (isAggN 20 x3) <| og (isCell x1) <| og (isCell x2) <| ob (R.r F_term_putting_in [(.undef, (.ptr 0 0)), ((ag20 x0), .val)] [SObj.box [(x1, .val), (x2, .val), ((proj 0 x3), .val), ((proj 1 x3), .val), ((proj 2 x3), .val), ((proj 3 x3), .val), ((proj 4 x3), .val), ((proj 5 x3), .val), ((proj 6 x3), .val), ((proj 7 x3), .val), ((proj 8 x3), .val), ((proj 9 x3), .val), ((proj 10 x3), .val), ((proj 11 x3), .val), ((proj 12 x3), .val), ((proj 13 x3), .val), ((proj 14 x3), .val), ((proj 15 x3), .val), ((proj 16 x3), .val), ((proj 17 x3), .val), ((proj 18 x3), .val), ((proj 19 x3), .val)]]) fun q1 => ob (dExt 0 (.tup q1.1)) fun d2 => ob (dExt 1 (.tup q1.1)) fun d3 => og (isAggN 20 d2) <| ob (dUn .not d3) fun d4 => oif d4 (some (.tup [zA3, (.int .i64 8)])) (some (.tup [(ag20 d2), (.int .i64 0)]))) := evP_of [] (by kernel_rfl)
theorem call_term_For (x0 x1 x2 x3 : DV) {d : DV} (h : P_term_For (run cfg) x0 x1 x2 x3 = some d) : (run cfg).p F_term_For [x0, x1, x2, x3] = some d := callE Tryz.func44 (by kernel_rfl) (by kernel_rfl) (by kernel_rfl) h
noncomputable def P_r01_Name (R : Orc) (x0 : DV) : Option DV := eP Tryz.f45 fl_r01_Name R [] (initSt Tryz.f45 [(x0, .val)] [])
noncomputable def P_r01_Name_4h (R : Orc) (t0 t3 : DV) : Option DV := hP Tryz.f45 fl_r01_Name R [true, true, false, true, false] (mst 32 [(0, t0), (3, t3)] [] [] [])
theorem eq_r01_Name (R : Orc) (x0 : DV) : P_r01_Name R x0 =
 (ob (dLenS x0) fun d1 => ob (dBin .lss d1 (.int .i64 1)) fun d2 => ogd d2 (some (.bool false)) (ob (dLenS x0) fun d3 => ob (dBin .gtr d3 (.int .i64 32)) fun d4 => ogd d4 (some (.bool false)) (ob (dStrIdx x0 (.int .i64 0)) fun d5 => ob (R.p F_r01_lower [d5]) fun d6 => ob (dUn .not d6) fun d7 => oif d7 (some (.bool false)) (P_r01_Name_4h R x0 (.int .i64 0))) none) none) := evP_of [] (by kernel_rfl)
theorem eq_r01_Name_4h (R : Orc) (t0 t3 : DV) : P_r01_Name_4h R t0 t3 =
 (ob (dLenS t0) fun d1 => ob (dBin .lss t3 d1) fun d2 => oif d2 (ob (dStrIdx t0 t3) fun d3 => ob (R.p F_r01_part [d3]) fun d4 => ob (dUn .not d4) fun d5 => oif d5 (some (.bool false)) (ob (dBin .add t3 (.int .i64 1)) fun d6 => P_r01_Name_4h R t0 d6)) (ob (R.p F_r01_Key [t0]) fun d7 => ob (dUn .not d7) fun d8 => some d8)) := headP_of [] (by kernel_rfl)
theorem call_r01_Name (x0 : DV) {d : DV} (h : P_r01_Name (run cfg) x0 = some d) : (run cfg).p F_r01_Name [x0] = some d := callE Tryz.func45 (by kernel_rfl) (by kernel_rfl) (by kernel_rfl) h
noncomputable def P_r17_Free (R : Orc) (x0 : DV) : Option DV := eP Tryz.f46 fl_r17_Free R [] (initSt Tryz.f46 [(x0, .val)] [])
theorem eq_r17_Free (R : Orc) (x0 : DV) : P_r17_Free R x0 =
 (og (isAggN 20 x0) <| ob (R.p F_r17_free [(ag20 x0), (.list 1 []), (.list 1 [])]) fun d1 => some d1) := evP_of [] (by kernel_rfl)
theorem call_r17_Free (x0 : DV) {d : DV} (h : P_r17_Free (run cfg) x0 = some d) : (run cfg).p F_r17_Free [x0] = some d := callE Tryz.func46 (by kernel_rfl) (by kernel_rfl) (by kernel_rfl) h
end Go.Su

/-
 Equations of the program's functions: by program.
-/
namespace Go.Su
open Go.Proofs
set_option linter.unusedVariables false
noncomputable def P_r17_counts (R : Orc) (x0 x1 x2 : DV) : Option DV := eP Tryz.f47 fl_r17_counts R [] (initSt Tryz.f47 [(x0, .val), (x1, .val), (x2, .val)] [])
noncomputable def P_r17_counts_4h (R : Orc) (t1 t2 t7 b3 : DV) : Option DV := hP Tryz.f47 fl_r17_counts R [true, true, false, true, false] (mst 48 [(1, t1), (2, t2), (7, t7)] [(3, (.loc 3 0))] [(3, some (bxs b3 0 20))] [])
theorem eq_r17_counts (R : Orc) (x0 x1 x2 : DV) : P_r17_counts R x0 x1 x2 =
 (og (isAggN 20 x0) <| ob (dBin .eql (proj 0 x0) (.int .i64 1)) fun d1 => ogd d1 (ob (dBin .eql (proj 3 x0) x1) fun d2 => ogd d2 (ob (dLen (proj 17 x0)) fun d3 => ob (dBin .neq d3 x2) fun d4 => oif d4 (some (.bool false)) (P_r17_counts_4h R x1 x2 (.int .i64 0) x0)) (P_r17_counts_4h R x1 x2 (.int .i64 0) x0) none) (P_r17_counts_4h R x1 x2 (.int .i64 0) x0) none) := evP_of [] (by kernel_rfl)
theorem eq_r17_counts_4h (R : Orc) (t1 t2 t7 b3 : DV) : P_r17_counts_4h R t1 t2 t7 b3 =
 (ob (dLen (proj 19 b3)) fun d1 => ob (dBin .lss t7 d1) fun d2 => oif d2 (ob (R.p F_r17_Binds [(ag20 b3), t7]) fun d3 => ob (R.p F_r05_Has [d3, t1]) fun d4 => ob (dUn .not d4) fun d5 => ogd d5 (ob (dIdx 20 (proj 19 b3) t7) fun d6 => ob (R.p F_r17_counts [(ag20 d6), t1, t2]) fun d7 => ob (dUn .not d7) fun d8 => oif d8 (some (.bool false)) (ob (dBin .add t7 (.int .i64 1)) fun d9 => P_r17_counts_4h R t1 t2 d9 b3)) (ob (dBin .add t7 (.int .i64 1)) fun d10 => P_r17_counts_4h R t1 t2 d10 b3) none) (some (.bool true))) := headP_of [] (by kernel_rfl)
theorem call_r17_counts (x0 x1 x2 : DV) {d : DV} (h : P_r17_counts (run cfg) x0 x1 x2 = some d) : (run cfg).p F_r17_counts [x0, x1, x2] = some d := callE Tryz.func47 (by kernel_rfl) (by kernel_rfl) (by kernel_rfl) h
noncomputable def P_r17_replaced (R : Orc) (x0 x1 x2 x3 : DV) : Option DV := eP Tryz.f48 fl_r17_replaced R [] (initSt Tryz.f48 [(x0, .val), (x1, .val), (x2, .val), (x3, .val)] [])
noncomputable def P_r17_replaced_3 (R : Orc) (t1 t2 b4 b7 : DV) : Option DV := eP Tryz.f48 fl_r17_replaced R [true, true] (mst 61 [(1, t1), (2, t2)] [(4, (.loc 4 0)), (7, (.loc 7 0)), (8, (.loc 8 0))] [(4, some (bxs b4 0 20)), (7, some (bxs b7 0 20)), (8, some zb0)] [])
noncomputable def P_r17_replaced_5h (R : Orc) (t1 t2 t9 t10 b4 b7 : DV) : Option DV := hP Tryz.f48 fl_r17_replaced R [true, true, true, false, true, false] (mst 61 [(1, t1), (2, t2), (9, t9), (10, t10)] [(4, (.loc 4 0)), (7, (.loc 7 0)), (8, (.loc 8 0)), (9, .own)] [(4, some (bxs b4 0 20)), (7, some (bxs b7 0 20)), (8, some zb0)] [])
theorem eq_r17_replaced (R : Orc) (x0 x1 x2 x3 : DV) : P_r17_replaced R x0 x1 x2 x3 =
 (og (isAggN 20 x0) <| og (isAggN 20 x3) <| ob (dBin .eql (proj 0 x0) (.int .i64 1)) fun d1 => ogd d1 (ob (dBin .eql (proj 3 x0) x1) fun d2 => oif d2 (ob (R.p F_r16_Binds [x2, (proj 17 x0)]) fun d3 => ob (R.p F_r17_Types [(ag20 x3), d3]) fun d4 => og (isAggN 20 d4) <| some (ag20 d4)) (P_r17_replaced_3 R x1 x2 x0 x3)) (P_r17_replaced_3 R x1 x2 x0 x3) none) := evP_of [3] (by kernel_rfl)
theorem eq_r17_replaced_3 (R : Orc) (t1 t2 b4 b7 : DV) : P_r17_replaced_3 R t1 t2 b4 b7 =
 (P_r17_replaced_5h R t1 t2 (.list 20 []) (.int .i64 0) b4 b7) := evP_of [3] (by kernel_rfl)
theorem eq_r17_replaced_5h (R : Orc) (t1 t2 t9 t10 b4 b7 : DV) : P_r17_replaced_5h R t1 t2 t9 t10 b4 b7 =
 (ob (dLen (proj 19 b4)) fun d1 => ob (dBin .lss t10 d1) fun d2 => oif d2 (ob (R.p F_r17_Binds [(ag20 b4), t10]) fun d3 => ob (R.p F_r05_Has [d3, t1]) fun d4 => oif d4 (ob (dIdx 20 (proj 19 b4) t10) fun d5 => ob (dApp 20 t9 (.list 20 [(ag20 d5)])) fun d6 => ob (dBin .add t10 (.int .i64 1)) fun d7 => P_r17_replaced_5h R t1 t2 d6 d7 b4 b7) (ob (dIdx 20 (proj 19 b4) t10) fun d8 => ob (R.p F_r17_replaced [(ag20 d8), t1, t2, (ag20 b7)]) fun d9 => og (isAggN 20 d9) <| ob (dApp 20 t9 (.list 20 [d9])) fun d10 => ob (dBin .add t10 (.int .i64 1)) fun d11 => P_r17_replaced_5h R t1 t2 d10 d11 b4 b7)) (some (.agg [(proj 0 b4), (proj 1 b4), (proj 2 b4), (proj 3 b4), (proj 4 b4), (proj 5 b4), (proj 6 b4), (proj 7 b4), (proj 8 b4), (proj 9 b4), (proj 10 b4), (proj 11 b4), (proj 12 b4), (proj 13 b4), (proj 14 b4), (proj 15 b4), (proj 16 b4), (proj 17 b4), (proj 18 b4), t9]))) := headP_of [3] (by kernel_rfl)
theorem call_r17_replaced (x0 x1 x2 x3 : DV) {d : DV} (h : P_r17_replaced (run cfg) x0 x1 x2 x3 = some d) : (run cfg).p F_r17_replaced [x0, x1, x2, x3] = some d := callE Tryz.func48 (by kernel_rfl) (by kernel_rfl) (by kernel_rfl) h
noncomputable def P_r17_flat (R : Orc) (x0 x1 : DV) : Option DV := eP Tryz.f49 fl_r17_flat R [] (initSt Tryz.f49 [(x0, .val), (x1, .val)] [])
noncomputable def P_r17_flat_3 (R : Orc) (b2 b3 : DV) : Option DV := eP Tryz.f49 fl_r17_flat R [true, true] (mst 153 [] [(2, (.loc 2 0)), (3, (.loc 3 0))] [(2, some (bxs b2 0 20)), (3, some (bxs b3 0 20))] [])
noncomputable def P_r17_flat_6h (R : Orc) (t5 b2 b3 : DV) : Option DV := hP Tryz.f49 fl_r17_flat R [true, true, true, false, true, false] (mst 153 [(5, t5)] [(2, (.loc 2 0)), (3, (.loc 3 0))] [(2, some (bxs b2 0 20)), (3, some (bxs b3 0 20))] [])
noncomputable def P_r17_flat_11h (R : Orc) (t6 b2 b3 : DV) : Option DV := hP Tryz.f49 fl_r17_flat R [true, true, true, true, false, true, false] (mst 153 [(6, t6)] [(2, (.loc 2 0)), (3, (.loc 3 0))] [(2, some (bxs b2 0 20)), (3, some (bxs b3 0 20))] [])
set_option maxRecDepth 100000 in
theorem eq_r17_flat (R : Orc) (x0 x1 : DV) : P_r17_flat R x0 x1 =
 (og (isAggN 20 x0) <| og (isAggN 20 x1) <| ob (dBin .neq (proj 0 x0) (proj 0 x1)) fun d1 => ogd d1 (some (.bool false)) (ob (dEqA [.int, .int] (.agg [(proj 1 x0), (proj 2 x0)]) (.agg [(proj 1 x1), (proj 2 x1)])) fun b2 => ogd (.bool !b2) (some (.bool false)) (ob (dBin .neq (proj 3 x0) (proj 3 x1)) fun d3 => ogd d3 (some (.bool false)) (ob (dBin .neq (proj 4 x0) (proj 4 x1)) fun d4 => ogd d4 (some (.bool false)) (ob (dBin .neq (proj 5 x0) (proj 5 x1)) fun d5 => ogd d5 (some (.bool false)) (ob (dBin .neq (proj 6 x0) (proj 6 x1)) fun d6 => ogd d6 (some (.bool false)) (ob (dBin .neq (proj 7 x0) (proj 7 x1)) fun d7 => ogd d7 (some (.bool false)) (ob (dBin .neq (proj 8 x0) (proj 8 x1)) fun d8 => ogd d8 (some (.bool false)) (ob (dEqB (proj 9 x0) (proj 9 x1)) fun b9 => oif (.bool !b9) (some (.bool false)) (P_r17_flat_3 R x0 x1)) none) none) none) none) none) none) none) none) := evP_of [3] (by kernel_rfl)
set_option maxRecDepth 100000 in
theorem eq_r17_flat_3 (R : Orc) (b2 b3 : DV) : P_r17_flat_3 R b2 b3 =
 (ob (dLen (proj 10 b2)) fun d1 => ob (dLen (proj 10 b3)) fun d2 => ob (dBin .neq d1 d2) fun d3 => ogd d3 (some (.bool false)) (ob (dLen (proj 18 b2)) fun d4 => ob (dLen (proj 18 b3)) fun d5 => ob (dBin .neq d4 d5) fun d6 => ogd d6 (some (.bool false)) (ob (R.p F_r03_SameAll [(proj 17 b2), (proj 17 b3)]) fun d7 => ob (dUn .not d7) fun d8 => ogd d8 (some (.bool false)) (ob (R.p F_r03_Same [(.agg [(proj 11 b2), (proj 12 b2), (proj 13 b2)]), (.agg [(proj 11 b3), (proj 12 b3), (proj 13 b3)])]) fun d9 => ob (dUn .not d9) fun d10 => ogd d10 (some (.bool false)) (ob (R.p F_r03_Same [(.agg [(proj 14 b2), (proj 15 b2), (proj 16 b2)]), (.agg [(proj 14 b3), (proj 15 b3), (proj 16 b3)])]) fun d11 => ob (dUn .not d11) fun d12 => oif d12 (some (.bool false)) (P_r17_flat_6h R (.int .i64 0) b2 b3)) none) none) none) none) := evP_of [3] (by kernel_rfl)
theorem eq_r17_flat_6h (R : Orc) (t5 b2 b3 : DV) : P_r17_flat_6h R t5 b2 b3 =
 (ob (dLen (proj 10 b2)) fun d1 => ob (dBin .lss t5 d1) fun d2 => oif d2 (ob (dIdx 1 (proj 10 b2) t5) fun d3 => og (isLeaf d3) <| ob (dIdx 1 (proj 10 b3) t5) fun d4 => og (isLeaf d4) <| ob (dBin .neq d3 d4) fun d5 => oif d5 (some (.bool false)) (ob (dBin .add t5 (.int .i64 1)) fun d6 => P_r17_flat_6h R d6 b2 b3)) (P_r17_flat_11h R (.int .i64 0) b2 b3)) := headP_of [3] (by kernel_rfl)
theorem eq_r17_flat_11h (R : Orc) (t6 b2 b3 : DV) : P_r17_flat_11h R t6 b2 b3 =
 (ob (dLen (proj 18 b2)) fun d1 => ob (dBin .lss t6 d1) fun d2 => oif d2 (ob (dBin .add t6 (.int .i64 1)) fun d3 => ob (dSlice 7 (proj 18 b2) (some t6) (some d3)) fun d4 => og (isCell d4) <| ob (dBin .add t6 (.int .i64 1)) fun d5 => ob (dSlice 7 (proj 18 b3) (some t6) (some d5)) fun d6 => og (isCell d6) <| ob (R.p F_r05_SameAt [(.agg [(.int .i64 14), (.int .i64 0), (.int .i64 0), (.str ⟨#[]⟩), (.str ⟨#[]⟩), (.int .i64 0), (.str ⟨#[]⟩), (.int .i64 0), (.int .i64 0), (.int .i64 0), (.list 3 []), (.int .i64 0), (.int .i64 0), (.list 3 []), d4, (.list 16 [])]), (.agg [(.int .i64 14), (.int .i64 0), (.int .i64 0), (.str ⟨#[]⟩), (.str ⟨#[]⟩), (.int .i64 0), (.str ⟨#[]⟩), (.int .i64 0), (.int .i64 0), (.int .i64 0), (.list 3 []), (.int .i64 0), (.int .i64 0), (.list 3 []), d6, (.list 16 [])])]) fun d7 => ob (dUn .not d7) fun d8 => oif d8 (some (.bool false)) (ob (dBin .add t6 (.int .i64 1)) fun d9 => P_r17_flat_11h R d9 b2 b3)) (some (.bool true))) := headP_of [3] (by kernel_rfl)
theorem call_r17_flat (x0 x1 : DV) {d : DV} (h : P_r17_flat (run cfg) x0 x1 = some d) : (run cfg).p F_r17_flat [x0, x1] = some d := callE Tryz.func49 (by kernel_rfl) (by kernel_rfl) (by kernel_rfl) h
noncomputable def P_r03_Leaf (R : Orc) (x0 : DV) : Option DV := eP Tryz.f50 fl_r03_Leaf R [] (initSt Tryz.f50 [(x0, .val)] [])
theorem eq_r03_Leaf (R : Orc) (x0 : DV) : P_r03_Leaf R x0 =
 (og (isCell x0) <| some (.agg [x0, (.int .i64 0), (.list 3 [])])) := evP_of [] (by kernel_rfl)
theorem call_r03_Leaf (x0 : DV) {d : DV} (h : P_r03_Leaf (run cfg) x0 = some d) : (run cfg).p F_r03_Leaf [x0] = some d := callE Tryz.func50 (by kernel_rfl) (by kernel_rfl) (by kernel_rfl) h
noncomputable def P_l17_name (R : Orc) (x0 x1 : DV) : Option DV := eP Tryz.f51 fl_l17_name R [] (initSt Tryz.f51 [(x0, .val), (x1, .val)] [])
theorem eq_l17_name (R : Orc) (x0 x1 : DV) : P_l17_name R x0 x1 =
 (og (isCell x0) <| og (isCell x1) <| some (.agg [(.int .i64 1), (.int .i64 0), (.int .i64 0), x0, (.str ⟨#[]⟩), (.int .i64 0), (.str ⟨#[]⟩), (.int .i64 0), (.int .i64 0), (.bool false), (.list 1 []), (.int .i64 0), (.int .i64 0), (.list 3 []), (.int .i64 0), (.int .i64 0), (.list 3 []), x1, (.list 7 []), (.list 20 [])])) := evP_of [] (by kernel_rfl)
theorem call_l17_name (x0 x1 : DV) {d : DV} (h : P_l17_name (run cfg) x0 x1 = some d) : (run cfg).p F_l17_name [x0, x1] = some d := callE Tryz.func51 (by kernel_rfl) (by kernel_rfl) (by kernel_rfl) h
noncomputable def P_term_Size (R : Orc) (x0 : DV) : Option DV := eP Tryz.f52 fl_term_Size R [] (initSt Tryz.f52 [(x0, .val)] [])
noncomputable def P_term_Size_3h (R : Orc) (t3 t7 t8 t9 : DV) : Option DV := hP Tryz.f52 fl_term_Size R [true, true, false, true, false] (mst 19 [(3, t3), (7, t7), (8, t8), (9, t9)] [] [] [])
theorem eq_term_Size (R : Orc) (x0 : DV) : P_term_Size R x0 =
 (og (isAggN 20 x0) <| ob (dLen (proj 19 x0)) fun d1 => P_term_Size_3h R (.int .i64 1) (proj 19 x0) d1 (.int .i64 0)) := evP_of [] (by kernel_rfl)
theorem eq_term_Size_3h (R : Orc) (t3 t7 t8 t9 : DV) : P_term_Size_3h R t3 t7 t8 t9 =
 (ob (dBin .lss t9 t8) fun d1 => oif d1 (ob (dIdx 20 t7 t9) fun d2 => ob (R.p F_term_Size [(ag20 d2)]) fun d3 => ob (dBin .add t3 d3) fun d4 => ob (dBin .add t9 (.int .i64 1)) fun d5 => P_term_Size_3h R d4 t7 t8 d5) (some t3)) := headP_of [] (by kernel_rfl)
theorem call_term_Size (x0 : DV) {d : DV} (h : P_term_Size (run cfg) x0 = some d) : (run cfg).p F_term_Size [x0] = some d := callE Tryz.func52 (by kernel_rfl) (by kernel_rfl) (by kernel_rfl) h
noncomputable def P_keep_Texts (R : Orc) (x0 x1 : DV) : Option DV := eP Tryz.f53 fl_keep_Texts R [] (initSt Tryz.f53 [(x0, .val), (x1, .val)] [])
noncomputable def P_keep_Texts_4h (R : Orc) (t0 t1 t5 : DV) : Option DV := hP Tryz.f53 fl_keep_Texts R [true, true, false, true, false] (mst 26 [(0, t0), (1, t1), (5, t5)] [] [] [])
theorem eq_keep_Texts (R : Orc) (x0 x1 : DV) : P_keep_Texts R x0 x1 =
 (ob (dLen x0) fun d1 => ob (dLen x1) fun d2 => ob (dBin .neq d1 d2) fun d3 => oif d3 (some (.bool false)) (P_keep_Texts_4h R x0 x1 (.int .i64 0))) := evP_of [] (by kernel_rfl)
theorem eq_keep_Texts_4h (R : Orc) (t0 t1 t5 : DV) : P_keep_Texts_4h R t0 t1 t5 =
 (ob (dLen t0) fun d1 => ob (dBin .lss t5 d1) fun d2 => oif d2 (ob (dIdx 1 t0 t5) fun d3 => og (isLeaf d3) <| ob (dIdx 1 t1 t5) fun d4 => og (isLeaf d4) <| ob (dBin .neq d3 d4) fun d5 => oif d5 (some (.bool false)) (ob (dBin .add t5 (.int .i64 1)) fun d6 => P_keep_Texts_4h R t0 t1 d6)) (some (.bool true))) := headP_of [] (by kernel_rfl)
theorem call_keep_Texts (x0 x1 : DV) {d : DV} (h : P_keep_Texts (run cfg) x0 x1 = some d) : (run cfg).p F_keep_Texts [x0, x1] = some d := callE Tryz.func53 (by kernel_rfl) (by kernel_rfl) (by kernel_rfl) h
noncomputable def P_term_Same (R : Orc) (x0 x1 : DV) : Option DV := eP Tryz.f54 fl_term_Same R [] (initSt Tryz.f54 [(x0, .val), (x1, .val)] [])
noncomputable def P_term_Same_3 (R : Orc) (b2 b3 : DV) : Option DV := eP Tryz.f54 fl_term_Same R [true, true] (mst 108 [] [(2, (.loc 2 0)), (3, (.loc 3 0))] [(2, some (bxs b2 0 20)), (3, some (bxs b3 0 20))] [])
set_option maxRecDepth 100000 in
theorem eq_term_Same (R : Orc) (x0 x1 : DV) : P_term_Same R x0 x1 =
 (og (isAggN 20 x0) <| og (isAggN 20 x1) <| ob (dBin .neq (proj 0 x0) (proj 0 x1)) fun d1 => ogd d1 (some (.bool false)) (ob (dEqA [.int, .int] (.agg [(proj 1 x0), (proj 2 x0)]) (.agg [(proj 1 x1), (proj 2 x1)])) fun b2 => ogd (.bool !b2) (some (.bool false)) (ob (dBin .neq (proj 3 x0) (proj 3 x1)) fun d3 => ogd d3 (some (.bool false)) (ob (dBin .neq (proj 4 x0) (proj 4 x1)) fun d4 => ogd d4 (some (.bool false)) (ob (dBin .neq (proj 5 x0) (proj 5 x1)) fun d5 => ogd d5 (some (.bool false)) (ob (dBin .neq (proj 6 x0) (proj 6 x1)) fun d6 => ogd d6 (some (.bool false)) (ob (dBin .neq (proj 7 x0) (proj 7 x1)) fun d7 => ogd d7 (some (.bool false)) (ob (dBin .neq (proj 8 x0) (proj 8 x1)) fun d8 => ogd d8 (some (.bool false)) (ob (dEqB (proj 9 x0) (proj 9 x1)) fun b9 => oif (.bool !b9) (some (.bool false)) (P_term_Same_3 R x0 x1)) none) none) none) none) none) none) none) none) := evP_of [3] (by kernel_rfl)
set_option maxRecDepth 100000 in
theorem eq_term_Same_3 (R : Orc) (b2 b3 : DV) : P_term_Same_3 R b2 b3 =
 (ob (R.p F_slices_Equal__int_int [(proj 10 b2), (proj 10 b3)]) fun d1 => ob (dUn .not d1) fun d2 => ogd d2 (some (.bool false)) (ob (R.p F_typ_Same [(.agg [(proj 11 b2), (proj 12 b2), (proj 13 b2)]), (.agg [(proj 11 b3), (proj 12 b3), (proj 13 b3)])]) fun d3 => ob (dUn .not d3) fun d4 => ogd d4 (some (.bool false)) (ob (R.p F_typ_Same [(.agg [(proj 14 b2), (proj 15 b2), (proj 16 b2)]), (.agg [(proj 14 b3), (proj 15 b3), (proj 16 b3)])]) fun d5 => ob (dUn .not d5) fun d6 => ogd d6 (some (.bool false)) (ob (R.r F_slices_EqualFunc__api_Type__api_Type_api_Type_api_Type [((proj 17 b2), .val), ((proj 17 b3), .val), (.undef, (.fn 97 []))] []) fun q7 => ob (dUn .not (q7.1.getD 0 .undef)) fun d8 => oif d8 (some (.bool false)) (ob (R.r F_slices_EqualFunc__api_Pat__api_Pat_api_Pat_api_Pat [((proj 18 b2), .val), ((proj 18 b3), .val), (.undef, (.fn 100 []))] q7.2) fun q9 => ogd (q9.1.getD 0 .undef) (ob (R.r F_slices_EqualFunc__api_Term__api_Term_api_Term_api_Term [((proj 19 b2), .val), ((proj 19 b3), .val), (.undef, (.fn 54 []))] q9.2) fun q10 => some (q10.1.getD 0 .undef)) (some (.bool false)) none)) none) none) none) := evP_of [3] (by kernel_rfl)
theorem call_term_Same (x0 x1 : DV) {d : DV} (h : P_term_Same (run cfg) x0 x1 = some d) : (run cfg).p F_term_Same [x0, x1] = some d := callE Tryz.func54 (by kernel_rfl) (by kernel_rfl) (by kernel_rfl) h
noncomputable def P_r17_without (R : Orc) (x0 x1 : DV) : Option DV := eP Tryz.f55 fl_r17_without R [] (initSt Tryz.f55 [(x0, .val), (x1, .val)] [])
noncomputable def P_r17_without_3h (R : Orc) (t0 t1 t5 t6 : DV) : Option DV := hP Tryz.f55 fl_r17_without R [true, true, false, true, false] (mst 29 [(0, t0), (1, t1), (5, t5), (6, t6)] [(5, .own)] [] [])
theorem eq_r17_without (R : Orc) (x0 x1 : DV) : P_r17_without R x0 x1 =
 (P_r17_without_3h R x0 x1 (.list 4 []) (.int .i64 0)) := evP_of [] (by kernel_rfl)
theorem eq_r17_without_3h (R : Orc) (t0 t1 t5 t6 : DV) : P_r17_without_3h R t0 t1 t5 t6 =
 (ob (dLen t0) fun d1 => ob (dBin .lss t6 d1) fun d2 => oif d2 (ob (dIdx 4 t0 t6) fun d3 => ob (R.p F_r03_In [t1, (proj 0 d3)]) fun d4 => ob (dUn .not d4) fun d5 => oif d5 (ob (dIdx 4 t0 t6) fun d6 => ob (dApp 4 t5 (.list 4 [(.agg [(proj 0 d6), (proj 1 d6), (proj 2 d6), (proj 3 d6)])])) fun d7 => ob (dBin .add t6 (.int .i64 1)) fun d8 => P_r17_without_3h R t0 t1 d7 d8) (ob (dBin .add t6 (.int .i64 1)) fun d9 => P_r17_without_3h R t0 t1 t5 d9)) (some t5)) := headP_of [] (by kernel_rfl)
theorem call_r17_without (x0 x1 : DV) {d : DV} (h : P_r17_without (run cfg) x0 x1 = some d) : (run cfg).p F_r17_without [x0, x1] = some d := callE Tryz.func55 (by kernel_rfl) (by kernel_rfl) (by kernel_rfl) h
noncomputable def P_r17_put (R : Orc) (x0 x1 : DV) : Option DV := eP Tryz.f56 fl_r17_put R [] (initSt Tryz.f56 [(x0, .val), (x1, .val)] [])
theorem eq_r17_put (R : Orc) (x0 x1 : DV) : P_r17_put R x0 x1 =
 (og (isAggN 3 x0) <| ob (R.p F_r03_None [(ag3 x0)]) fun d1 => oif d1 (some (ag3 x0)) (ob (R.p F_r08_Put [(ag3 x0), x1]) fun d2 => og (isAggN 3 d2) <| some (ag3 d2))) := evP_of [] (by kernel_rfl)
theorem call_r17_put (x0 x1 : DV) {d : DV} (h : P_r17_put (run cfg) x0 x1 = some d) : (run cfg).p F_r17_put [x0, x1] = some d := callE Tryz.func56 (by kernel_rfl) (by kernel_rfl) (by kernel_rfl) h
noncomputable def P_l17_weighPat (R : Orc) (x0 x1 : DV) : Option DV := eP Tryz.f57 fl_l17_weighPat R [] (initSt Tryz.f57 [(x0, .val), (x1, .val)] [])
noncomputable def P_l17_weighPat_5h (R : Orc) (t1 t5 b2 : DV) : Option DV := hP Tryz.f57 fl_l17_weighPat R [true, true, true, false, true, false] (mst 37 [(1, t1), (5, t5)] [(2, (.loc 2 0))] [(2, some (bxs b2 0 7))] [])
theorem eq_l17_weighPat (R : Orc) (x0 x1 : DV) : P_l17_weighPat R x0 x1 =
 (og (isAggN 7 x0) <| ob (dLenS (proj 5 x0)) fun d1 => ob (dBin .gtr d1 (.int .i64 300)) fun d2 => ogd d2 (some (.int .i64 501)) (ob (dLenS (proj 3 x0)) fun d3 => ob (dBin .gtr d3 (.int .i64 300)) fun d4 => oif d4 (some (.int .i64 501)) (ob (dBin .add x1 (.int .i64 1)) fun d5 => P_l17_weighPat_5h R d5 (.int .i64 0) x0)) none) := evP_of [] (by kernel_rfl)
theorem eq_l17_weighPat_5h (R : Orc) (t1 t5 b2 : DV) : P_l17_weighPat_5h R t1 t5 b2 =
 (ob (dLen (proj 6 b2)) fun d1 => ob (dBin .lss t5 d1) fun d2 => ogd d2 (ob (dBin .leq t1 (.int .i64 500)) fun d3 => oif d3 (ob (dIdx 7 (proj 6 b2) t5) fun d4 => ob (R.p F_l17_weighPat [(ag7 d4), t1]) fun d5 => ob (dBin .add t5 (.int .i64 1)) fun d6 => P_l17_weighPat_5h R d5 d6 b2) (some t1)) (some t1) none) := headP_of [] (by kernel_rfl)
theorem call_l17_weighPat (x0 x1 : DV) {d : DV} (h : P_l17_weighPat (run cfg) x0 x1 = some d) : (run cfg).p F_l17_weighPat [x0, x1] = some d := callE Tryz.func57 (by kernel_rfl) (by kernel_rfl) (by kernel_rfl) h
noncomputable def P_r17_bare (R : Orc) (x0 : DV) : Option DV := eP Tryz.f58 fl_r17_bare R [] (initSt Tryz.f58 [(x0, .val)] [])
noncomputable def P_r17_bare_25 (R : Orc) (t9 b1 b4_0 : DV) : Option DV := eP Tryz.f58 fl_r17_bare R [true, true, false, true, false, true, true, true, true, true, true, true, true, true, true, true, true, true, true] (mst 123 [(9, t9)] [(1, (.loc 1 0)), (2, (.loc 2 0)), (4, (.loc 4 0))] [(1, some (bxs b1 0 20)), (2, some zb0), (4, some [(b4_0, .val), ((.int .i64 0), .val), ((.int .i64 0), .val), ((.str ⟨#[]⟩), .val), ((.str ⟨#[]⟩), .val), ((.int .i64 0), .val), ((.str ⟨#[]⟩), .val), ((.int .i64 0), .val), ((.int .i64 0), .val), ((.bool false), .val), ((.list 1 []), .val), ((.int .i64 0), .val), ((.int .i64 0), .val), ((.list 3 []), .val), ((.int .i64 0), .val), ((.int .i64 0), .val), ((.list 3 []), .val), ((.list 3 []), .val), ((.list 7 []), .val), ((.list 20 []), .val)])] [])
set_option maxRecDepth 100000 in
theorem eq_r17_bare (R : Orc) (x0 : DV) : P_r17_bare R x0 =
 (og (isAggN 20 x0) <| og (isCell (proj 0 x0)) <| ob (dBin .eql (proj 0 x0) (.int .i64 1)) fun d1 => oif d1 (og (isCell (proj 3 x0)) <| og (isCell (proj 17 x0)) <| some (.tup [(.agg [(proj 0 x0), (.int .i64 0), (.int .i64 0), (proj 3 x0), (.str ⟨#[]⟩), (.int .i64 0), (.str ⟨#[]⟩), (.int .i64 0), (.int .i64 0), (.bool false), (.list 1 []), (.int .i64 0), (.int .i64 0), (.list 3 []), (.int .i64 0), (.int .i64 0), (.list 3 []), (proj 17 x0), (.list 7 []), (.list 20 [])]), (.int .i64 0)])) (ob (dBin .eql (proj 0 x0) (.int .i64 2)) fun d2 => oif d2 (og (isCell (proj 5 x0)) <| some (.tup [(.agg [(proj 0 x0), (.int .i64 0), (.int .i64 0), (.str ⟨#[]⟩), (.str ⟨#[]⟩), (proj 5 x0), (.str ⟨#[]⟩), (.int .i64 0), (.int .i64 0), (.bool false), (.list 1 []), (.int .i64 0), (.int .i64 0), (.list 3 []), (.int .i64 0), (.int .i64 0), (.list 3 []), (.list 3 []), (.list 7 []), (.list 20 [])]), (.int .i64 0)])) (ob (dBin .eql (proj 0 x0) (.int .i64 3)) fun d3 => oif d3 (og (isCell (proj 5 x0)) <| some (.tup [(.agg [(proj 0 x0), (.int .i64 0), (.int .i64 0), (.str ⟨#[]⟩), (.str ⟨#[]⟩), (proj 5 x0), (.str ⟨#[]⟩), (.int .i64 0), (.int .i64 0), (.bool false), (.list 1 []), (.int .i64 0), (.int .i64 0), (.list 3 []), (.int .i64 0), (.int .i64 0), (.list 3 []), (.list 3 []), (.list 7 []), (.list 20 [])]), (.int .i64 0)])) (ob (dBin .eql (proj 0 x0) (.int .i64 4)) fun d4 =>
 oif d4 (og (isCell (proj 6 x0)) <| some (.tup [(.agg [(proj 0 x0), (.int .i64 0), (.int .i64 0), (.str ⟨#[]⟩), (.str ⟨#[]⟩), (.int .i64 0), (proj 6 x0), (.int .i64 0), (.int .i64 0), (.bool false), (.list 1 []), (.int .i64 0), (.int .i64 0), (.list 3 []), (.int .i64 0), (.int .i64 0), (.list 3 []), (.list 3 []), (.list 7 []), (.list 20 [])]), (.int .i64 0)])) (ob (dBin .eql (proj 0 x0) (.int .i64 5)) fun d5 => oif d5 (some (.tup [(.agg [(proj 0 x0), (.int .i64 0), (.int .i64 0), (.str ⟨#[]⟩), (.str ⟨#[]⟩), (.int .i64 0), (.str ⟨#[]⟩), (.int .i64 0), (.int .i64 0), (.bool false), (.list 1 []), (.int .i64 0), (.int .i64 0), (.list 3 []), (.int .i64 0), (.int .i64 0), (.list 3 []), (.list 3 []), (.list 7 []), (.list 20 [])]), (.int .i64 0)])) (ob (dBin .eql (proj 0 x0) (.int .i64 7)) fun d6 => oif d6 (some (.tup [(.agg [(proj 0 x0), (.int .i64 0), (.int .i64 0), (.str ⟨#[]⟩), (.str ⟨#[]⟩), (.int .i64 0), (.str ⟨#[]⟩), (.int .i64 0), (.int .i64 0), (.bool false), (.list 1 []), (proj 11 x0), (proj 12 x0), (proj 13 x0), (.int .i64 0), (.int .i64 0), (.list 3 []), (.list 3 []), (.list 7 []), (.list 20 [])]), (.int .i64 0)])) (ob (dBin .eql (proj 0 x0) (.int .i64 6)) fun d7 => oif d7 (some (.tup [(.agg [(proj 0 x0), (.int .i64 0), (.int .i64 0), (.str ⟨#[]⟩), (.str ⟨#[]⟩), (.int .i64 0), (.str ⟨#[]⟩), (.int .i64 0), (.int .i64 0), (.bool false), (.list 1 []), (.int .i64 0), (.int .i64 0), (.list 3 []), (.int .i64 0), (.int .i64 0), (.list 3 []), (.list 3 []), (.list 7 []), (.list 20 [])]), (.int .i64 2)])) (ob (dBin .eql (proj 0 x0) (.int .i64 8)) fun d8 =>
 oif d8 (some (.tup [(.agg [(proj 0 x0), (.int .i64 0), (.int .i64 0), (.str ⟨#[]⟩), (.str ⟨#[]⟩), (.int .i64 0), (.str ⟨#[]⟩), (.int .i64 0), (.int .i64 0), (.bool false), (.list 1 []), (.int .i64 0), (.int .i64 0), (.list 3 []), (.int .i64 0), (.int .i64 0), (.list 3 []), (.list 3 []), (.list 7 []), (.list 20 [])]), (.int .i64 2)])) (ob (dBin .eql (proj 0 x0) (.int .i64 10)) fun d9 => oif d9 (some (.tup [(.agg [(proj 0 x0), (.int .i64 0), (.int .i64 0), (.str ⟨#[]⟩), (.str ⟨#[]⟩), (.int .i64 0), (.str ⟨#[]⟩), (.int .i64 0), (.int .i64 0), (.bool false), (.list 1 []), (.int .i64 0), (.int .i64 0), (.list 3 []), (.int .i64 0), (.int .i64 0), (.list 3 []), (.list 3 []), (.list 7 []), (.list 20 [])]), (.int .i64 2)])) (ob (dBin .eql (proj 0 x0) (.int .i64 9)) fun d10 => oif d10 (og (isCell (proj 3 x0)) <| some (.tup [(.agg [(proj 0 x0), (.int .i64 0), (.int .i64 0), (proj 3 x0), (.str ⟨#[]⟩), (.int .i64 0), (.str ⟨#[]⟩), (.int .i64 0), (.int .i64 0), (.bool false), (.list 1 []), (proj 11 x0), (proj 12 x0), (proj 13 x0), (.int .i64 0), (.int .i64 0), (.list 3 []), (.list 3 []), (.list 7 []), (.list 20 [])]), (.int .i64 1)])) (P_r17_bare_25 R (proj 0 x0) x0 (proj 0 x0)))))))))))) := evP_of [25] (by kernel_rfl)
set_option maxRecDepth 100000 in
theorem eq_r17_bare_25 (R : Orc) (t9 b1 b4_0 : DV) : P_r17_bare_25 R t9 b1 b4_0 =
 (ob (dBin .eql t9 (.int .i64 11)) fun d1 => oif d1 (og (isCell (proj 3 b1)) <| og (isCell (proj 10 b1)) <| some (.tup [(.agg [b4_0, (.int .i64 0), (.int .i64 0), (proj 3 b1), (.str ⟨#[]⟩), (.int .i64 0), (.str ⟨#[]⟩), (.int .i64 0), (.int .i64 0), (.bool false), (proj 10 b1), (.int .i64 0), (.int .i64 0), (.list 3 []), (.int .i64 0), (.int .i64 0), (.list 3 []), (.list 3 []), (.list 7 []), (.list 20 [])]), (.int .i64 2)])) (ob (dBin .eql t9 (.int .i64 12)) fun d2 => oif d2 (og (isCell (proj 3 b1)) <| og (isCell (proj 4 b1)) <| og (isCell (proj 10 b1)) <| some (.tup [(.agg [b4_0, (.int .i64 0), (.int .i64 0), (proj 3 b1), (proj 4 b1), (.int .i64 0), (.str ⟨#[]⟩), (.int .i64 0), (.int .i64 0), (.bool false), (proj 10 b1), (proj 11 b1), (proj 12 b1), (proj 13 b1), (proj 14 b1), (proj 15 b1), (proj 16 b1), (.list 3 []), (.list 7 []), (.list 20 [])]), (.int .i64 2)])) (ob (dBin .eql t9 (.int .i64 13)) fun d3 => oif d3 (some (.tup [(.agg [b4_0, (.int .i64 0), (.int .i64 0), (.str ⟨#[]⟩), (.str ⟨#[]⟩), (.int .i64 0), (.str ⟨#[]⟩), (.int .i64 0), (.int .i64 0), (.bool false), (.list 1 []), (.int .i64 0), (.int .i64 0), (.list 3 []), (.int .i64 0), (.int .i64 0), (.list 3 []), (.list 3 []), (.list 7 []), (.list 20 [])]), (.int .i64 3)])) (ob (dBin .eql t9 (.int .i64 14)) fun d4 =>
 oif d4 (og (isCell (proj 18 b1)) <| ob (dLen (proj 18 b1)) fun d5 => ob (dBin .add d5 (.int .i64 1)) fun d6 => some (.tup [(.agg [b4_0, (proj 1 b1), (proj 2 b1), (.str ⟨#[]⟩), (.str ⟨#[]⟩), (.int .i64 0), (.str ⟨#[]⟩), (.int .i64 0), (.int .i64 0), (.bool false), (.list 1 []), (.int .i64 0), (.int .i64 0), (.list 3 []), (.int .i64 0), (.int .i64 0), (.list 3 []), (.list 3 []), (proj 18 b1), (.list 20 [])]), d6])) (ob (dBin .eql t9 (.int .i64 15)) fun d7 => oif d7 (og (isCell (proj 7 b1)) <| some (.tup [(.agg [b4_0, (proj 1 b1), (proj 2 b1), (.str ⟨#[]⟩), (.str ⟨#[]⟩), (.int .i64 0), (.str ⟨#[]⟩), (proj 7 b1), (.int .i64 0), (.bool false), (.list 1 []), (.int .i64 0), (.int .i64 0), (.list 3 []), (.int .i64 0), (.int .i64 0), (.list 3 []), (.list 3 []), (.list 7 []), (.list 20 [])]), (.int .i64 2)])) (ob (dBin .eql t9 (.int .i64 16)) fun d8 => oif d8 (og (isCell (proj 8 b1)) <| og (isCell (proj 9 b1)) <| some (.tup [(.agg [b4_0, (.int .i64 0), (.int .i64 0), (.str ⟨#[]⟩), (.str ⟨#[]⟩), (.int .i64 0), (.str ⟨#[]⟩), (.int .i64 0), (proj 8 b1), (proj 9 b1), (.list 1 []), (proj 11 b1), (proj 12 b1), (proj 13 b1), (proj 14 b1), (proj 15 b1), (proj 16 b1), (.list 3 []), (.list 7 []), (.list 20 [])]), (.int .i64 1)])) (some (.tup [(.agg [b4_0, (.int .i64 0), (.int .i64 0), (.str ⟨#[]⟩), (.str ⟨#[]⟩), (.int .i64 0), (.str ⟨#[]⟩), (.int .i64 0), (.int .i64 0), (.bool false), (.list 1 []), (.int .i64 0), (.int .i64 0), (.list 3 []), (.int .i64 0), (.int .i64 0), (.list 3 []), (.list 3 []), (.list 7 []), (.list 20 [])]), (.int .i64 (-1))])))))))) := evP_of [25] (by kernel_rfl)
theorem call_r17_bare (x0 : DV) {d : DV} (h : P_r17_bare (run cfg) x0 = some d) : (run cfg).p F_r17_bare [x0] = some d := callE Tryz.func58 (by kernel_rfl) (by kernel_rfl) (by kernel_rfl) h
noncomputable def P_r05_RightPat (R : Orc) (x0 : DV) : Option DV := eP Tryz.f59 fl_r05_RightPat R [] (initSt Tryz.f59 [(x0, .val)] [])
noncomputable def P_r05_RightPat_5h (R : Orc) (t3 t4 : DV) : Option DV := hP Tryz.f59 fl_r05_RightPat R [true, true, true, false, true, false] (mst 24 [(3, t3), (4, t4)] [] [] [])
theorem eq_r05_RightPat (R : Orc) (x0 : DV) : P_r05_RightPat R x0 =
 (og (isAggN 7 x0) <| ob (R.p F_r05_pat [(ag7 x0)]) fun d1 => ob (dUn .not d1) fun d2 => oif d2 (some (.bool false)) (ob (R.p F_r05_Names [(ag7 x0)]) fun d3 => P_r05_RightPat_5h R d3 (.int .i64 0))) := evP_of [] (by kernel_rfl)
theorem eq_r05_RightPat_5h (R : Orc) (t3 t4 : DV) : P_r05_RightPat_5h R t3 t4 =
 (ob (dLen t3) fun d1 => ob (dBin .lss t4 d1) fun d2 => oif d2 (ob (dSlice 1 t3 none (some t4)) fun d3 => ob (dIdx 1 t3 t4) fun d4 => og (isLeaf d4) <| ob (R.p F_r05_Has [d3, d4]) fun d5 => oif d5 (some (.bool false)) (ob (dBin .add t4 (.int .i64 1)) fun d6 => P_r05_RightPat_5h R t3 d6)) (some (.bool true))) := headP_of [] (by kernel_rfl)
theorem call_r05_RightPat (x0 : DV) {d : DV} (h : P_r05_RightPat (run cfg) x0 = some d) : (run cfg).p F_r05_RightPat [x0] = some d := callE Tryz.func59 (by kernel_rfl) (by kernel_rfl) (by kernel_rfl) h
noncomputable def P_r05_Names (R : Orc) (x0 : DV) : Option DV := eP Tryz.f62 fl_r05_Names R [] (initSt Tryz.f62 [(x0, .val)] [])
theorem eq_r05_Names (R : Orc) (x0 : DV) : P_r05_Names R x0 =
 (og (isAggN 7 x0) <| ob (R.r F_r05_names [((ag7 x0), .val), ((.list 1 []), .own)] []) fun q1 => some (q1.1.getD 0 .undef)) := evP_of [] (by kernel_rfl)
theorem call_r05_Names (x0 : DV) {d : DV} (h : P_r05_Names (run cfg) x0 = some d) : (run cfg).p F_r05_Names [x0] = some d := callE Tryz.func62 (by kernel_rfl) (by kernel_rfl) (by kernel_rfl) h
noncomputable def P_l03_count (R : Orc) (x0 x1 : DV) : Option DV := eP Tryz.f64 fl_l03_count R [] (initSt Tryz.f64 [(x0, .val), (x1, .val)] [])
noncomputable def P_l03_count_3h (R : Orc) (t1 t5 b2 : DV) : Option DV := hP Tryz.f64 fl_l03_count R [true, true, false, true, false] (mst 27 [(1, t1), (5, t5)] [(2, (.loc 2 0))] [(2, some (bxs b2 0 3))] [])
theorem eq_l03_count (R : Orc) (x0 x1 : DV) : P_l03_count R x0 x1 =
 (og (isAggN 3 x0) <| ob (dBin .add x1 (.int .i64 1)) fun d1 => P_l03_count_3h R d1 (.int .i64 0) x0) := evP_of [] (by kernel_rfl)
theorem eq_l03_count_3h (R : Orc) (t1 t5 b2 : DV) : P_l03_count_3h R t1 t5 b2 =
 (ob (dLen (proj 2 b2)) fun d1 => ob (dBin .lss t5 d1) fun d2 => ogd d2 (ob (dBin .leq t1 (.int .i64 600)) fun d3 => oif d3 (ob (dIdx 3 (proj 2 b2) t5) fun d4 => ob (R.p F_l03_count [(ag3 d4), t1]) fun d5 => ob (dBin .add t5 (.int .i64 1)) fun d6 => P_l03_count_3h R d5 d6 b2) (some t1)) (some t1) none) := headP_of [] (by kernel_rfl)
theorem call_l03_count (x0 x1 : DV) {d : DV} (h : P_l03_count (run cfg) x0 x1 = some d) : (run cfg).p F_l03_count [x0, x1] = some d := callE Tryz.func64 (by kernel_rfl) (by kernel_rfl) (by kernel_rfl) h
end Go.Su

/-
 Equations of the program's functions: by program.
-/
namespace Go.Su
open Go.Proofs
set_option linter.unusedVariables false
noncomputable def code_r03_vars : Code := Tryz.f65.body.getD .skip
noncomputable def P_r03_vars (R : Orc) (x0 x1 : DV) (sg : List SObj) : Option (List DV × List SObj) := evP cfg R fl_r03_vars (retR cfg.P Tryz.f65 sig_r03_vars) [] code_r03_vars (initSt Tryz.f65 [(x0, .val), (x1, .own)] sg)
noncomputable def P_r03_vars_3 (R : Orc) (t1 b2 : DV) (sg : List SObj) : Option (List DV × List SObj) := evP cfg R fl_r03_vars (retR cfg.P Tryz.f65 sig_r03_vars) [true, true] code_r03_vars (mst 36 [(1, t1)] [(1, .own), (2, (.loc 2 0))] [(2, some (bxs b2 0 3))] sg)
noncomputable def P_r03_vars_4h (R : Orc) (t1 t5 b2 : DV) (sg : List SObj) : Option (List DV × List SObj) := headP cfg R fl_r03_vars (retR cfg.P Tryz.f65 sig_r03_vars) [true, true, false, true, false] code_r03_vars (mst 36 [(1, t1), (5, t5)] [(1, .own), (2, (.loc 2 0))] [(2, some (bxs b2 0 3))] sg)
theorem eq_r03_vars (R : Orc) (x0 x1 : DV) (sg : List SObj) : P_r03_vars R x0 x1 sg =
 (og (isAggN 3 x0) <| ob (dBin .eql (proj 0 x0) (.int .i64 6)) fun d1 => ogd d1 (ob (R.p F_r03_In [x1, (proj 1 x0)]) fun d2 => ob (dUn .not d2) fun d3 => oif d3 (og (isCell (proj 1 x0)) <| ob (dApp 1 x1 (.list 1 [(proj 1 x0)])) fun d4 => P_r03_vars_3 R d4 x0 sg) (P_r03_vars_3 R x1 x0 sg)) (P_r03_vars_3 R x1 x0 sg) none) := evP_of [3] (by kernel_rfl)
theorem eq_r03_vars_3 (R : Orc) (t1 b2 : DV) (sg : List SObj) : P_r03_vars_3 R t1 b2 sg =
 (P_r03_vars_4h R t1 (.int .i64 0) b2 sg) := evP_of [3] (by kernel_rfl)
theorem eq_r03_vars_4h (R : Orc) (t1 t5 b2 : DV) (sg : List SObj) : P_r03_vars_4h R t1 t5 b2 sg =
 (ob (dLen (proj 2 b2)) fun d1 => ob (dBin .lss t5 d1) fun d2 => oif d2 (ob (dIdx 3 (proj 2 b2) t5) fun d3 => ob (R.r F_r03_vars [((ag3 d3), .val), (t1, .own)] sg) fun q4 => ob (dBin .add t5 (.int .i64 1)) fun d5 => P_r03_vars_4h R (q4.1.getD 0 .undef) d5 b2 q4.2) (some ([t1], sg))) := headP_of [3] (by kernel_rfl)
theorem fix_r03_vars (x0 x1 : DV) (sg : List SObj) : (run cfg).r F_r03_vars [(x0, .val), (x1, .own)] sg = P_r03_vars (run cfg) x0 x1 sg :=
 (fix_raw (C := cfg) (f := F_r03_vars) (s := sig_r03_vars) (fn := Tryz.f65) (c := code_r03_vars) (by kernel_rfl) Tryz.func65 (by kernel_rfl)).trans (by kernel_rfl)
theorem call_r03_vars (x0 x1 : DV) (sg : List SObj) {q : List DV × List SObj} (h : P_r03_vars (run cfg) x0 x1 sg = some q) : (run cfg).r F_r03_vars [(x0, .val), (x1, .own)] sg = some q := (fix_r03_vars x0 x1 sg).trans h
noncomputable def P_term_one (R : Orc) (x0 : DV) : Option DV := eP Tryz.f75 fl_term_one R [] (initSt Tryz.f75 [(x0, .val)] [])
noncomputable def P_term_one_4 (R : Orc) (b1 b3 : DV) : Option DV := eP Tryz.f75 fl_term_one R [true, true, false, false, true, true] (mst 183 [] [(1, (.loc 1 0)), (3, (.loc 3 0))] [(1, some (bxs b1 0 20)), (3, some (bxs b3 0 13))] [])
noncomputable def P_term_one_6 (R : Orc) (b1 b3 : DV) : Option DV := eP Tryz.f75 fl_term_one R [true, true, false, false, true, true, true, true] (mst 183 [] [(1, (.loc 1 0)), (3, (.loc 3 0))] [(1, some (bxs b1 0 20)), (3, some (bxs b3 0 13))] [])
noncomputable def P_term_one_8 (R : Orc) (b1 b3 : DV) : Option DV := eP Tryz.f75 fl_term_one R [true, true, false, false, true, true, true, true, true, true] (mst 183 [] [(1, (.loc 1 0)), (3, (.loc 3 0))] [(1, some (bxs b1 0 20)), (3, some (bxs b3 0 13))] [])
noncomputable def P_term_one_10 (R : Orc) (b1 b3 : DV) : Option DV := eP Tryz.f75 fl_term_one R [true, true, false, false, true, true, true, true, true, true, true, true] (mst 183 [] [(1, (.loc 1 0)), (3, (.loc 3 0))] [(1, some (bxs b1 0 20)), (3, some (bxs b3 0 13))] [])
noncomputable def P_term_one_12 (R : Orc) (b1 b3 : DV) : Option DV := eP Tryz.f75 fl_term_one R [true, true, false, false, true, true, true, true, true, true, true, true, true, true] (mst 183 [] [(1, (.loc 1 0)), (3, (.loc 3 0))] [(1, some (bxs b1 0 20)), (3, some (bxs b3 0 13))] [])
set_option maxRecDepth 100000 in
theorem eq_term_one (R : Orc) (x0 : DV) : P_term_one R x0 =
 (og (isAggN 20 x0) <| ob (R.p F_term_shapeOf [(ag20 x0)]) fun d1 => ob (dExt 0 d1) fun d2 => ob (dExt 1 d1) fun d3 => og (isAggN 13 d2) <| ob (dUn .not d3) fun d4 => ogd d4 (some (.bool false)) (ob (dLen (proj 19 x0)) fun d5 => ob (dBin .neq d5 (proj 12 d2)) fun d6 => ogd d6 (some (.bool false)) (ob (R.p F_term_named [(proj 0 d2), (proj 3 x0)]) fun d7 => ob (dUn .not d7) fun d8 => ogd d8 (some (.bool false)) (ob (R.p F_term_named [(proj 1 d2), (proj 4 x0)]) fun d9 => ob (dUn .not d9) fun d10 => ogd d10 (some (.bool false)) (ob (R.p F_term_typed [(proj 9 d2), (.agg [(proj 11 x0), (proj 12 x0), (proj 13 x0)])]) fun d11 => ob (dUn .not d11) fun d12 => ogd d12 (some (.bool false)) (ob (R.p F_term_typed [(proj 10 d2), (.agg [(proj 14 x0), (proj 15 x0), (proj 16 x0)])]) fun d13 => ob (dUn .not d13) fun d14 => oif d14 (some (.bool false)) (P_term_one_4 R x0 d2)) none) none) none) none) none) := evP_of [4, 6, 8, 10, 12] (by kernel_rfl)
set_option maxRecDepth 100000 in
theorem eq_term_one_4 (R : Orc) (b1 b3 : DV) : P_term_one_4 R b1 b3 =
 (ob (dUn .not (proj 2 b3)) fun d1 => ogd d1 (ob (dBin .neq (proj 5 b1) (.int .i64 0)) fun d2 => ogd d2 (some (.bool false)) (ob (dBin .eql (proj 0 b1) (.int .i64 3)) fun d3 => ogd d3 (ob (dBin .neq (proj 5 b1) (.int .i64 0)) fun d4 => ogd d4 (ob (dBin .neq (proj 5 b1) (.int .i64 1)) fun d5 => oif d5 (some (.bool false)) (P_term_one_6 R b1 b3)) (P_term_one_6 R b1 b3) none) (P_term_one_6 R b1 b3) none) none) (ob (dBin .eql (proj 0 b1) (.int .i64 3)) fun d6 => ogd d6 (ob (dBin .neq (proj 5 b1) (.int .i64 0)) fun d7 => ogd d7 (ob (dBin .neq (proj 5 b1) (.int .i64 1)) fun d8 => oif d8 (some (.bool false)) (P_term_one_6 R b1 b3)) (P_term_one_6 R b1 b3) none) (P_term_one_6 R b1 b3) none) none) := evP_of [4, 6, 8, 10, 12] (by kernel_rfl)
set_option maxRecDepth 100000 in
theorem eq_term_one_6 (R : Orc) (b1 b3 : DV) : P_term_one_6 R b1 b3 =
 (ob (dUn .not (proj 3 b3)) fun d1 => ogd d1 (ob (dBin .neq (proj 6 b1) (.str ⟨#[]⟩)) fun d2 => ogd d2 (some (.bool false)) (ob (dLenS (proj 6 b1)) fun d3 => ob (dBin .gtr d3 (.int .i64 200)) fun d4 => ogd d4 (some (.bool false)) (ob (dUn .not (proj 5 b3)) fun d5 => ogd d5 (ob (dEqA [.int, .int] (.agg [(proj 1 b1), (proj 2 b1)]) (.agg [(.int .i64 0), (.int .i64 0)])) fun b6 => oif (.bool !b6) (some (.bool false)) (P_term_one_8 R b1 b3)) (P_term_one_8 R b1 b3) none) none) none) (ob (dLenS (proj 6 b1)) fun d7 => ob (dBin .gtr d7 (.int .i64 200)) fun d8 => ogd d8 (some (.bool false)) (ob (dUn .not (proj 5 b3)) fun d9 => ogd d9 (ob (dEqA [.int, .int] (.agg [(proj 1 b1), (proj 2 b1)]) (.agg [(.int .i64 0), (.int .i64 0)])) fun b10 => oif (.bool !b10) (some (.bool false)) (P_term_one_8 R b1 b3)) (P_term_one_8 R b1 b3) none) none) none) := evP_of [4, 6, 8, 10, 12] (by kernel_rfl)
set_option maxRecDepth 100000 in
theorem eq_term_one_8 (R : Orc) (b1 b3 : DV) : P_term_one_8 R b1 b3 =
 (ogd (proj 4 b3) (ob (dBin .lss (proj 7 b1) (.int .i64 1)) fun d1 => ogd d1 (some (.bool false)) (ob (dBin .gtr (proj 7 b1) (.int .i64 7)) fun d2 => ogd d2 (some (.bool false)) (ob (dUn .not (proj 4 b3)) fun d3 => ogd d3 (ob (dBin .neq (proj 7 b1) (.int .i64 0)) fun d4 => oif d4 (some (.bool false)) (P_term_one_10 R b1 b3)) (P_term_one_10 R b1 b3) none) none) none) (ob (dUn .not (proj 4 b3)) fun d5 => ogd d5 (ob (dBin .neq (proj 7 b1) (.int .i64 0)) fun d6 => oif d6 (some (.bool false)) (P_term_one_10 R b1 b3)) (P_term_one_10 R b1 b3) none) none) := evP_of [4, 6, 8, 10, 12] (by kernel_rfl)
set_option maxRecDepth 100000 in
theorem eq_term_one_10 (R : Orc) (b1 b3 : DV) : P_term_one_10 R b1 b3 =
 (ob (dUn .not (proj 11 b3)) fun d1 => ogd d1 (ob (dBin .neq (proj 8 b1) (.int .i64 0)) fun d2 => ogd d2 (some (.bool false)) (ogd (proj 9 b1) (some (.bool false)) (ob (dBin .lss (proj 8 b1) (.int .i64 0)) fun d3 => ogd d3 (some (.bool false)) (ob (dBin .gtr (proj 8 b1) (.int .i64 1048576)) fun d4 => oif d4 (some (.bool false)) (P_term_one_12 R b1 b3)) none) none) none) (ob (dBin .lss (proj 8 b1) (.int .i64 0)) fun d5 => ogd d5 (some (.bool false)) (ob (dBin .gtr (proj 8 b1) (.int .i64 1048576)) fun d6 => oif d6 (some (.bool false)) (P_term_one_12 R b1 b3)) none) none) := evP_of [4, 6, 8, 10, 12] (by kernel_rfl)
set_option maxRecDepth 100000 in
theorem eq_term_one_12 (R : Orc) (b1 b3 : DV) : P_term_one_12 R b1 b3 =
 (ob (dUn .not (proj 6 b3)) fun d1 => ogd d1 (ob (dLen (proj 10 b1)) fun d2 => ob (dBin .gtr d2 (.int .i64 0)) fun d3 => ogd d3 (some (.bool false)) (ob (dUn .not (proj 7 b3)) fun d4 => ogd d4 (ob (dLen (proj 17 b1)) fun d5 => ob (dBin .gtr d5 (.int .i64 0)) fun d6 => ogd d6 (some (.bool false)) (ob (dUn .not (proj 8 b3)) fun d7 => ogd d7 (ob (dLen (proj 18 b1)) fun d8 => ob (dBin .gtr d8 (.int .i64 0)) fun d9 => oif d9 (some (.bool false)) (ob (R.p F_term_lists [(ag20 b1)]) fun d10 => some d10)) (ob (R.p F_term_lists [(ag20 b1)]) fun d11 => some d11) none) none) (ob (dUn .not (proj 8 b3)) fun d12 => ogd d12 (ob (dLen (proj 18 b1)) fun d13 => ob (dBin .gtr d13 (.int .i64 0)) fun d14 => oif d14 (some (.bool false)) (ob (R.p F_term_lists [(ag20 b1)]) fun d15 => some d15)) (ob (R.p F_term_lists [(ag20 b1)]) fun d16 => some d16) none) none) none) (ob (dUn .not (proj 7 b3)) fun d17 => ogd d17 (ob (dLen (proj 17 b1)) fun d18 => ob (dBin .gtr d18 (.int .i64 0)) fun d19 => ogd d19 (some (.bool false)) (ob (dUn .not (proj 8 b3)) fun d20 => ogd d20 (ob (dLen (proj 18 b1)) fun d21 => ob (dBin .gtr d21 (.int .i64 0)) fun d22 => oif d22 (some (.bool false)) (ob (R.p F_term_lists [(ag20 b1)]) fun d23 =>
 some d23)) (ob (R.p F_term_lists [(ag20 b1)]) fun d24 => some d24) none) none) (ob (dUn .not (proj 8 b3)) fun d25 => ogd d25 (ob (dLen (proj 18 b1)) fun d26 => ob (dBin .gtr d26 (.int .i64 0)) fun d27 => oif d27 (some (.bool false)) (ob (R.p F_term_lists [(ag20 b1)]) fun d28 => some d28)) (ob (R.p F_term_lists [(ag20 b1)]) fun d29 => some d29) none) none) none) := evP_of [4, 6, 8, 10, 12] (by kernel_rfl)
theorem call_term_one (x0 : DV) {d : DV} (h : P_term_one (run cfg) x0 = some d) : (run cfg).p F_term_one [x0] = some d := callE Tryz.func75 (by kernel_rfl) (by kernel_rfl) (by kernel_rfl) h
noncomputable def P_term_put (R : Orc) (x0 x1 : DV) : Option DV := eP Tryz.f78 fl_term_put R [] (initSt Tryz.f78 [(x0, .val), (x1, .val)] [])
theorem eq_term_put (R : Orc) (x0 x1 : DV) : P_term_put R x0 x1 =
 (og (isAggN 3 x0) <| ob (dBin .eql (proj 0 x0) (.int .i64 0)) fun d1 => oif d1 (some (ag3 x0)) (ob (R.p F_scheme_Subst [(ag3 x0), x1]) fun d2 => ob (dExt 0 d2) fun d3 => ob (dExt 1 d2) fun d4 => og (isAggN 3 d3) <| some (ag3 d3))) := evP_of [] (by kernel_rfl)
theorem call_term_put (x0 x1 : DV) {d : DV} (h : P_term_put (run cfg) x0 x1 = some d) : (run cfg).p F_term_put [x0, x1] = some d := callE Tryz.func78 (by kernel_rfl) (by kernel_rfl) (by kernel_rfl) h
end Go.Su

/-
 Equations of the program's functions: by program.
-/
namespace Go.Su
open Go.Proofs
set_option linter.unusedVariables false
noncomputable def P_term_outside (R : Orc) (x0 x1 x2 : DV) : Option DV := eP Tryz.f79 fl_term_outside R [] (initSt Tryz.f79 [(x0, .val), (x1, .val), (x2, .val)] [])
theorem eq_term_outside (R : Orc) (x0 x1 x2 : DV) : P_term_outside R x0 x1 x2 =
 (og (isAggN 20 x0) <| ob (dBin .gtr x1 (.int .i64 0)) fun d1 => ogd d1 (some x2) (ob (dLen (proj 10 x0)) fun d2 => ob (dBin .eql d2 (.int .i64 0)) fun d3 => oif d3 (some x2) (ob (dList x2) fun p4 => og (true && p4.1 == 4 && decide (p4.2.length ≤ lim)) <| ob (R.r F_slices_DeleteFunc__api_Bind_api_Bind [(.undef, (.arr 1 4 0 p4.2.length)), (.undef, (.fn 117 [(0, 0)]))] [SObj.box [((proj 0 x0), .val), ((proj 1 x0), .val), ((proj 2 x0), .val), ((proj 3 x0), .val), ((proj 4 x0), .val), ((proj 5 x0), .val), ((proj 6 x0), .val), ((proj 7 x0), .val), ((proj 8 x0), .val), ((proj 9 x0), .val), ((proj 10 x0), .val), ((proj 11 x0), .val), ((proj 12 x0), .val), ((proj 13 x0), .val), ((proj 14 x0), .val), ((proj 15 x0), .val), ((proj 16 x0), .val), ((proj 17 x0), .val), ((proj 18 x0), .val), ((proj 19 x0), .val)], .arr 4 p4.2]) fun q5 => some (q5.1.getD 0 .undef))) none) := evP_of [] (by kernel_rfl)
theorem call_term_outside (x0 x1 x2 : DV) {d : DV} (h : P_term_outside (run cfg) x0 x1 x2 = some d) : (run cfg).p F_term_outside [x0, x1, x2] = some d := callE Tryz.func79 (by kernel_rfl) (by kernel_rfl) (by kernel_rfl) h
noncomputable def P_typ_right (R : Orc) (x0 : DV) : Option DV := eP Tryz.f80 fl_typ_right R [] (initSt Tryz.f80 [(x0, .val)] [])
noncomputable def P_typ_right_9h (R : Orc) (t33 t34 t35 : DV) : Option DV := hP Tryz.f80 fl_typ_right R [true, true, true, true, false, true, false] (mst 43 [(33, t33), (34, t34), (35, t35)] [] [] [])
theorem eq_typ_right (R : Orc) (x0 : DV) : P_typ_right R x0 =
 (og (isAggN 3 x0) <| ob (R.p F_typ_arity [(proj 0 x0)]) fun d1 => ob (dBin .lss d1 (.int .i64 0)) fun d2 => ogd d2 (some (.bool false)) (ob (dLen (proj 2 x0)) fun d3 => ob (dBin .neq d3 d1) fun d4 => oif d4 (some (.bool false)) (ob (dBin .eql (proj 0 x0) (.int .i64 6)) fun d5 => oif d5 (ob (dBin .geq (proj 1 x0) (.int .i64 0)) fun d6 => ogd d6 (ob (dBin .leq (proj 1 x0) (.int .i64 1048576)) fun d7 => some d7) (some (.bool false)) none) (ob (dBin .neq (proj 1 x0) (.int .i64 0)) fun d8 => oif d8 (some (.bool false)) (ob (dLen (proj 2 x0)) fun d9 => P_typ_right_9h R (proj 2 x0) d9 (.int .i64 0))))) none) := evP_of [] (by kernel_rfl)
theorem eq_typ_right_9h (R : Orc) (t33 t34 t35 : DV) : P_typ_right_9h R t33 t34 t35 =
 (ob (dBin .lss t35 t34) fun d1 => oif d1 (ob (dIdx 3 t33 t35) fun d2 => ob (R.p F_typ_right [(ag3 d2)]) fun d3 => ob (dUn .not d3) fun d4 => oif d4 (some (.bool false)) (ob (dBin .add t35 (.int .i64 1)) fun d5 => P_typ_right_9h R t33 t34 d5)) (some (.bool true))) := headP_of [] (by kernel_rfl)
theorem call_typ_right (x0 : DV) {d : DV} (h : P_typ_right (run cfg) x0 = some d) : (run cfg).p F_typ_right [x0] = some d := callE Tryz.func80 (by kernel_rfl) (by kernel_rfl) (by kernel_rfl) h
noncomputable def P_word_Key (R : Orc) (x0 : DV) : Option DV := eP Tryz.f81 fl_word_Key R [] (initSt Tryz.f81 [(x0, .val)] [])
theorem eq_word_Key (R : Orc) (x0 : DV) : P_word_Key R x0 =
 (ob (dBin .eql x0 (.str ⟨#[108, 101, 116]⟩)) fun d1 => oif d1 (some (.bool true)) (ob (dBin .eql x0 (.str ⟨#[114, 101, 99]⟩)) fun d2 => oif d2 (some (.bool true)) (ob (dBin .eql x0 (.str ⟨#[105, 110]⟩)) fun d3 => oif d3 (some (.bool true)) (ob (dBin .eql x0 (.str ⟨#[102, 117, 110]⟩)) fun d4 => oif d4 (some (.bool true)) (ob (dBin .eql x0 (.str ⟨#[105, 102]⟩)) fun d5 => oif d5 (some (.bool true)) (ob (dBin .eql x0 (.str ⟨#[116, 104, 101, 110]⟩)) fun d6 => oif d6 (some (.bool true)) (ob (dBin .eql x0 (.str ⟨#[101, 108, 115, 101]⟩)) fun d7 => oif d7 (some (.bool true)) (ob (dBin .eql x0 (.str ⟨#[109, 97, 116, 99, 104]⟩)) fun d8 => oif d8 (some (.bool true)) (ob (dBin .eql x0 (.str ⟨#[119, 105, 116, 104]⟩)) fun d9 => oif d9 (some (.bool true)) (ob (dBin .eql x0 (.str ⟨#[101, 110, 100]⟩)) fun d10 => oif d10 (some (.bool true)) (ob (dBin .eql x0 (.str ⟨#[116, 114, 117, 101]⟩)) fun d11 => oif d11 (some (.bool true)) (ob (dBin .eql x0 (.str ⟨#[102, 97, 108, 115, 101]⟩)) fun d12 => oif d12 (some (.bool true)) (ob (dBin .eql x0 (.str ⟨#[105, 110, 116]⟩)) fun d13 => oif d13 (some (.bool true)) (ob (dBin .eql x0 (.str ⟨#[98, 111, 111, 108]⟩)) fun d14 => oif d14 (some (.bool true)) (ob (dBin .eql x0 (.str ⟨#[115, 116, 114, 105, 110, 103]⟩)) fun d15 =>
 oif d15 (some (.bool true)) (ob (dBin .eql x0 (.str ⟨#[117, 110, 105, 116]⟩)) fun d16 => oif d16 (some (.bool true)) (ob (dBin .eql x0 (.str ⟨#[108, 105, 115, 116]⟩)) fun d17 => oif d17 (some (.bool true)) (some (.bool false))))))))))))))))))) := evP_of [] (by kernel_rfl)
theorem call_word_Key (x0 : DV) {d : DV} (h : P_word_Key (run cfg) x0 = some d) : (run cfg).p F_word_Key [x0] = some d := callE Tryz.func81 (by kernel_rfl) (by kernel_rfl) (by kernel_rfl) h
noncomputable def P_word_inner (R : Orc) (x0 : DV) : Option DV := eP Tryz.f82 fl_word_inner R [] (initSt Tryz.f82 [(x0, .val)] [])
set_option maxRecDepth 100000 in
theorem eq_word_inner (R : Orc) (x0 : DV) : P_word_inner R x0 =
 (ob (dBin .geq x0 (.int .u8 97)) fun d1 => ogd d1 (ob (dBin .leq x0 (.int .u8 122)) fun d2 => ogd d2 (some (.bool true)) (ob (dBin .geq x0 (.int .u8 65)) fun d3 => ogd d3 (ob (dBin .leq x0 (.int .u8 90)) fun d4 => ogd d4 (some (.bool true)) (ob (dBin .geq x0 (.int .u8 48)) fun d5 => ogd d5 (ob (dBin .leq x0 (.int .u8 57)) fun d6 => ogd d6 (some (.bool true)) (ob (dBin .eql x0 (.int .u8 95)) fun d7 => ogd d7 (some (.bool true)) (ob (dBin .eql x0 (.int .u8 39)) fun d8 => some d8) none) none) (ob (dBin .eql x0 (.int .u8 95)) fun d9 => ogd d9 (some (.bool true)) (ob (dBin .eql x0 (.int .u8 39)) fun d10 => some d10) none) none) none) (ob (dBin .geq x0 (.int .u8 48)) fun d11 => ogd d11 (ob (dBin .leq x0 (.int .u8 57)) fun d12 => ogd d12 (some (.bool true)) (ob (dBin .eql x0 (.int .u8 95)) fun d13 => ogd d13 (some (.bool true)) (ob (dBin .eql x0 (.int .u8 39)) fun d14 => some d14) none) none) (ob (dBin .eql x0 (.int .u8 95)) fun d15 => ogd d15 (some (.bool true)) (ob (dBin .eql x0 (.int .u8 39)) fun d16 => some d16) none) none) none) none) (ob (dBin .geq x0 (.int .u8 65)) fun d17 => ogd d17 (ob (dBin .leq x0 (.int .u8 90)) fun d18 => ogd d18 (some (.bool true)) (ob (dBin .geq x0 (.int .u8 48)) fun d19 =>
 ogd d19 (ob (dBin .leq x0 (.int .u8 57)) fun d20 => ogd d20 (some (.bool true)) (ob (dBin .eql x0 (.int .u8 95)) fun d21 => ogd d21 (some (.bool true)) (ob (dBin .eql x0 (.int .u8 39)) fun d22 => some d22) none) none) (ob (dBin .eql x0 (.int .u8 95)) fun d23 => ogd d23 (some (.bool true)) (ob (dBin .eql x0 (.int .u8 39)) fun d24 => some d24) none) none) none) (ob (dBin .geq x0 (.int .u8 48)) fun d25 => ogd d25 (ob (dBin .leq x0 (.int .u8 57)) fun d26 => ogd d26 (some (.bool true)) (ob (dBin .eql x0 (.int .u8 95)) fun d27 => ogd d27 (some (.bool true)) (ob (dBin .eql x0 (.int .u8 39)) fun d28 => some d28) none) none) (ob (dBin .eql x0 (.int .u8 95)) fun d29 => ogd d29 (some (.bool true)) (ob (dBin .eql x0 (.int .u8 39)) fun d30 => some d30) none) none) none) none) := evP_of [] (by kernel_rfl)
theorem call_word_inner (x0 : DV) {d : DV} (h : P_word_inner (run cfg) x0 = some d) : (run cfg).p F_word_inner [x0] = some d := callE Tryz.func82 (by kernel_rfl) (by kernel_rfl) (by kernel_rfl) h
noncomputable def code_term_free : Code := Tryz.f83.body.getD .skip
noncomputable def P_term_free (R : Orc) (x0 : DV) (x1 x2 : Nat) (sg : List SObj) : Option (List DV × List SObj) := evP cfg R fl_term_free (retR cfg.P Tryz.f83 sig_term_free) [] code_term_free (initSt Tryz.f83 [(x0, .val), (.undef, (.map x1)), (.undef, (.map x2))] sg)
noncomputable def P_term_free_3 (R : Orc) (t1i t2i : Nat) (b3 : DV) (sg : List SObj) : Option (List DV × List SObj) := evP cfg R fl_term_free (retR cfg.P Tryz.f83 sig_term_free) [true, true] code_term_free (mst 66 [] [(1, (.map t1i)), (2, (.map t2i)), (3, (.loc 3 0))] [(3, some (bxs b3 0 20))] sg)
noncomputable def P_term_free_4h (R : Orc) (t1i t2i : Nat) (t29 t30 t31 b3 : DV) (sg : List SObj) : Option (List DV × List SObj) := headP cfg R fl_term_free (retR cfg.P Tryz.f83 sig_term_free) [true, true, true, false] code_term_free (mst 66 [(29, t29), (30, t30), (31, t31)] [(1, (.map t1i)), (2, (.map t2i)), (3, (.loc 3 0))] [(3, some (bxs b3 0 20))] sg)
noncomputable def P_term_free_8h (R : Orc) (t1i t2i : Nat) (t8 t29 t30 t31 t39 t40 t41 b3 b7 : DV) (sg : List SObj) : Option (List DV × List SObj) := headP cfg R fl_term_free (retR cfg.P Tryz.f83 sig_term_free) [true, true, true, false, false, true, true, false, false, true, true, false, true, false] code_term_free (mst 66 [(8, t8), (29, t29), (30, t30), (31, t31), (39, t39), (40, t40), (41, t41)] [(1, (.map t1i)), (2, (.map t2i)), (3, (.loc 3 0)), (7, (.loc 7 0))] [(3, some (bxs b3 0 20)), (7, some (bxs b7 0 20))] sg)
noncomputable def P_term_free_14h (R : Orc) (t1i t2i : Nat) (t29 t30 t31 t54 t55 t56 b3 : DV) (sg : List SObj) : Option (List DV × List SObj) := headP cfg R fl_term_free (retR cfg.P Tryz.f83 sig_term_free) [true, true, true, false, false, true, true, false, false, true, true, true, true, true, false] code_term_free (mst 66 [(29, t29), (30, t30), (31, t31), (54, t54), (55, t55), (56, t56)] [(1, (.map t1i)), (2, (.map t2i)), (3, (.loc 3 0))] [(3, some (bxs b3 0 20))] sg)
theorem eq_term_free (R : Orc) (x0 : DV) (x1 x2 : Nat) (sg : List SObj) : P_term_free R x0 x1 x2 sg =
 (og (isAggN 20 x0) <| ob (dBin .eql (proj 0 x0) (.int .i64 1)) fun d1 => ogd d1 (og (isKey true (proj 3 x0) && true) <| ob (sgMap sg x1) fun m2 => og (m2.1 == true) <| ob (dBin .eql ((mGet m2.2 (proj 3 x0)).getD (.int .i64 0)) (.int .i64 0)) fun d3 => oif d3 (og (isKey true (proj 3 x0) && true) <| ob (sgMap sg x2) fun m4 => og (m4.1 == true) <| ob (dBin .add ((mGet m4.2 (proj 3 x0)).getD (.int .i64 0)) (.int .i64 1)) fun d5 => og (isKey true (proj 3 x0) && true && true) <| ob (sgMap sg x2) fun m6 => og (m6.1 == true) <| P_term_free_3 R x1 x2 x0 (sg.set x2 (.map true (mSet m6.2 (proj 3 x0) d5)))) (P_term_free_3 R x1 x2 x0 sg)) (P_term_free_3 R x1 x2 x0 sg) none) := evP_of [3] (by kernel_rfl)
theorem eq_term_free_3 (R : Orc) (t1i t2i : Nat) (b3 : DV) (sg : List SObj) : P_term_free_3 R t1i t2i b3 sg =
 (ob (dLen (proj 19 b3)) fun d1 => P_term_free_4h R t1i t2i (proj 19 b3) d1 (.int .i64 0) b3 sg) := evP_of [3] (by kernel_rfl)
theorem eq_term_free_4h (R : Orc) (t1i t2i : Nat) (t29 t30 t31 b3 : DV) (sg : List SObj) : P_term_free_4h R t1i t2i t29 t30 t31 b3 sg =
 (ob (dBin .lss t31 t30) fun d1 => oif d1 (ob (dIdx 20 t29 t31) fun d2 => ob (R.p F_term_binds [(ag20 b3), t31]) fun d3 => ob (dLen d3) fun d4 => P_term_free_8h R t1i t2i d3 t29 t30 t31 d3 d4 (.int .i64 0) b3 d2 sg) (some ([], sg))) := headP_of [3] (by kernel_rfl)
theorem eq_term_free_8h (R : Orc) (t1i t2i : Nat) (t8 t29 t30 t31 t39 t40 t41 b3 b7 : DV) (sg : List SObj) : P_term_free_8h R t1i t2i t8 t29 t30 t31 t39 t40 t41 b3 b7 sg =
 (ob (dBin .lss t41 t40) fun d1 => oif d1 (ob (dIdx 1 t39 t41) fun d2 => og (isLeaf d2) <| og (isKey true d2 && true) <| ob (sgMap sg t1i) fun m3 => og (m3.1 == true) <| ob (dBin .add ((mGet m3.2 d2).getD (.int .i64 0)) (.int .i64 1)) fun d4 => og (isKey true d2 && true && true) <| ob (sgMap sg t1i) fun m5 => og (m5.1 == true) <| ob (dBin .add t41 (.int .i64 1)) fun d6 => P_term_free_8h R t1i t2i t8 t29 t30 t31 t39 t40 d6 b3 b7 (sg.set t1i (.map true (mSet m5.2 d2 d4)))) (ob (R.r F_term_free [((ag20 b7), .val), (.undef, (.map t1i)), (.undef, (.map t2i))] sg) fun q7 => ob (dLen t8) fun d8 => P_term_free_14h R t1i t2i t29 t30 t31 t8 d8 (.int .i64 0) b3 q7.2)) := headP_of [3] (by kernel_rfl)
theorem eq_term_free_14h (R : Orc) (t1i t2i : Nat) (t29 t30 t31 t54 t55 t56 b3 : DV) (sg : List SObj) : P_term_free_14h R t1i t2i t29 t30 t31 t54 t55 t56 b3 sg =
 (ob (dBin .lss t56 t55) fun d1 => oif d1 (ob (dIdx 1 t54 t56) fun d2 => og (isLeaf d2) <| og (isKey true d2 && true) <| ob (sgMap sg t1i) fun m3 => og (m3.1 == true) <| ob (dBin .sub ((mGet m3.2 d2).getD (.int .i64 0)) (.int .i64 1)) fun d4 => og (isKey true d2 && true && true) <| ob (sgMap sg t1i) fun m5 => og (m5.1 == true) <| ob (dBin .add t56 (.int .i64 1)) fun d6 => P_term_free_14h R t1i t2i t29 t30 t31 t54 t55 d6 b3 (sg.set t1i (.map true (mSet m5.2 d2 d4)))) (ob (dBin .add t31 (.int .i64 1)) fun d7 => P_term_free_4h R t1i t2i t29 t30 d7 b3 sg)) := headP_of [3] (by kernel_rfl)
theorem fix_term_free (x0 : DV) (x1 x2 : Nat) (sg : List SObj) : (run cfg).r F_term_free [(x0, .val), (.undef, (.map x1)), (.undef, (.map x2))] sg = P_term_free (run cfg) x0 x1 x2 sg :=
 (fix_raw (C := cfg) (f := F_term_free) (s := sig_term_free) (fn := Tryz.f83) (c := code_term_free) (by kernel_rfl) Tryz.func83 (by kernel_rfl)).trans (by kernel_rfl)
theorem call_term_free (x0 : DV) (x1 x2 : Nat) (sg : List SObj) {q : List DV × List SObj} (h : P_term_free (run cfg) x0 x1 x2 sg = some q) : (run cfg).r F_term_free [(x0, .val), (.undef, (.map x1)), (.undef, (.map x2))] sg = some q := (fix_term_free x0 x1 x2 sg).trans h
noncomputable def code_term_putting_in : Code := Tryz.f85.body.getD .skip
noncomputable def P_term_putting_in (R : Orc) (x0 : Nat) (x1 : DV) (sg : List SObj) : Option (List DV × List SObj) := evP cfg R fl_term_putting_in (retR cfg.P Tryz.f85 sig_term_putting_in) [] code_term_putting_in (initSt Tryz.f85 [(.undef, (.ptr x0 0)), (x1, .val)] sg)
noncomputable def P_term_putting_in_10h (R : Orc) (t0i : Nat) (t6 t51 t52 t53 b3 : DV) (sg : List SObj) : Option (List DV × List SObj) := headP cfg R fl_term_putting_in (retR cfg.P Tryz.f85 sig_term_putting_in) [true, false, true, false, true, true, false, true, false] code_term_putting_in (mst 115 [(6, t6), (51, t51), (52, t52), (53, t53)] [(0, (.ptr t0i 0)), (3, (.loc 3 0)), (4, (.loc 4 0)), (6, .own)] [(3, some (bxs b3 0 20)), (4, some zb0)] sg)
noncomputable def P_term_putting_in_19h (R : Orc) (t0i t9r0 t9r3 t83r0 t83r3 : Nat) (t84 t85 b3 : DV) (sg : List SObj) : Option (List DV × List SObj) := headP cfg R fl_term_putting_in (retR cfg.P Tryz.f85 sig_term_putting_in) [true, true, true, true, false, true, false] code_term_putting_in (mst 115 [(84, t84), (85, t85)] [(0, (.ptr t0i 0)), (3, (.loc 3 0)), (4, (.loc 4 0)), (9, (.arr t9r0 20 0 t9r3)), (83, (.arr t83r0 20 0 t83r3))] [(3, some (bxs b3 0 20)), (4, some zb0)] sg)
set_option maxRecDepth 100000 in
theorem eq_term_putting_in (R : Orc) (x0 : Nat) (x1 : DV) (sg : List SObj) : P_term_putting_in R x0 x1 sg =
 (og (isAggN 20 x1) <| ob (dBin .eql (proj 0 x1) (.int .i64 1)) fun d1 => oif d1 (ob (sgBox sg x0) fun c2 => ob (cellDat c2 0) fun d3 => ob (dBin .neq (proj 3 x1) d3) fun d4 => oif d4 (some ([(ag20 x1), (.bool true)], sg)) (ob (dLen (proj 17 x1)) fun d5 => ob (sgBox sg x0) fun c6 => ob (cellDat c6 1) fun d7 => ob (dLen d7) fun d8 => ob (dBin .neq d5 d8) fun d9 => oif d9 (some ([(ag20 x1), (.bool false)], sg)) (ob (sgBox sg x0) fun c10 => ob (cellDat c10 1) fun d11 => ob (dLen d11) fun d12 => ob (dBin .eql d12 (.int .i64 0)) fun d13 => oif d13 (ob (sgBox sg x0) fun c14 => ob (segDat 2 20 c14) fun e15 => og (isAggN 20 (.agg e15)) <| some ([(.agg [(proj 0 (.agg e15)), (proj 1 (.agg e15)), (proj 2 (.agg e15)), (proj 3 (.agg e15)), (proj 4 (.agg e15)), (proj 5 (.agg e15)), (proj 6 (.agg e15)), (proj 7 (.agg e15)), (proj 8 (.agg e15)), (proj 9 (.agg e15)), (proj 10 (.agg e15)), (proj 11 (.agg e15)), (proj 12 (.agg e15)), (proj 13 (.agg e15)), (proj 14 (.agg e15)), (proj 15 (.agg e15)), (proj 16 (.agg e15)), (proj 17 (.agg e15)), (proj 18 (.agg e15)), (proj 19 (.agg e15))]), (.bool true)], sg)) (ob (sgBox sg x0) fun c16 => ob (cellDat c16 1) fun d17 => ob (dLen d17) fun d18 =>
 P_term_putting_in_10h R x0 (.list 4 []) d17 d18 (.int .i64 0) x1 sg)))) (ob (dLen (proj 19 x1)) fun d19 => ob (dBin .eql d19 (.int .i64 0)) fun d20 => oif d20 (some ([(ag20 x1), (.bool true)], sg)) (ob (dList (proj 19 x1)) fun p21 => og (true && p21.1 == 20 && decide (p21.2.length ≤ lim)) <| P_term_putting_in_19h R x0 (sg.length) (p21.2.length) (sg.length) (p21.2.length) (.int .i64 p21.2.length) (.int .i64 0) x1 (sg ++ [.arr 20 p21.2])))) := evP_of [] (by kernel_rfl)
theorem eq_term_putting_in_10h (R : Orc) (t0i : Nat) (t6 t51 t52 t53 b3 : DV) (sg : List SObj) : P_term_putting_in_10h R t0i t6 t51 t52 t53 b3 sg =
 (ob (dBin .lss t53 t52) fun d1 => oif d1 (ob (dIdx 1 t51 t53) fun d2 => og (isLeaf d2) <| ob (dIdx 3 (proj 17 b3) t53) fun d3 => og (isCell d2) <| ob (dApp 4 t6 (.list 4 [(.agg [d2, (proj 0 d3), (proj 1 d3), (proj 2 d3)])])) fun d4 => ob (dBin .add t53 (.int .i64 1)) fun d5 => P_term_putting_in_10h R t0i d4 t51 t52 d5 b3 sg) (ob (sgBox sg t0i) fun c6 => ob (segDat 2 20 c6) fun e7 => ob (R.p F_term_types [(.agg e7), t6]) fun d8 => og (isAggN 20 d8) <| some ([(ag20 d8), (.bool true)], sg))) := headP_of [] (by kernel_rfl)
theorem eq_term_putting_in_19h (R : Orc) (t0i t9r0 t9r3 t83r0 t83r3 : Nat) (t84 t85 b3 : DV) (sg : List SObj) : P_term_putting_in_19h R t0i t9r0 t9r3 t83r0 t83r3 t84 t85 b3 sg =
 (ob (dBin .lss t85 t84) fun d1 => oif d1 (ob (arrIdx 0 t83r3 t85) fun n2 => ob (sgArr sg t83r0) fun r3 => ob (r3.2[n2]?) fun d4 => og (r3.1 == 20) <| ob (R.p F_term_binds [(ag20 b3), t85]) fun d5 => ob (sgBox sg t0i) fun c6 => ob (cellDat c6 0) fun d7 => ob (R.p F_slices_Contains__string_string [d5, d7]) fun d8 => oif d8 (ob (dBin .add t85 (.int .i64 1)) fun d9 => P_term_putting_in_19h R t0i t9r0 t9r3 t83r0 t83r3 t84 d9 b3 sg) (ob (R.r F_term_putting_in [(.undef, (.ptr t0i 0)), ((ag20 d4), .val)] sg) fun q10 => ob (dExt 0 (.tup q10.1)) fun d11 => ob (dExt 1 (.tup q10.1)) fun d12 => og (isAggN 20 d11) <| ob (dUn .not d12) fun d13 => oif d13 (some ([(ag20 b3), (.bool false)], q10.2)) (ob (arrIdx 0 t9r3 t85) fun n14 => ob (sgArr q10.2 t9r0) fun r15 => ob (r15.2[n14]?) fun u16 => og (r15.1 == 20) <| ob (dBin .add t85 (.int .i64 1)) fun d17 => P_term_putting_in_19h R t0i t9r0 t9r3 t83r0 t83r3 t84 d17 b3 (q10.2.set t9r0 (.arr 20 (r15.2.set n14 (ag20 d11))))))) (ob (seqO [ob (sealCells sg [((proj 0 b3), .val), ((proj 1 b3), .val), ((proj 2 b3), .val), ((proj 3 b3), .val), ((proj 4 b3), .val), ((proj 5 b3), .val), ((proj 6 b3), .val), ((proj 7 b3), .val), ((proj 8 b3), .val), ((proj 9 b3), .val), ((proj 10 b3), .val), ((proj 11 b3), .val), ((proj 12 b3), .val), ((proj 13 b3), .val), ((proj 14 b3), .val), ((proj 15 b3), .val), ((proj 16 b3), .val), ((proj 17 b3), .val), ((proj 18 b3), .val), (.undef, (.arr t9r0 20 0 t9r3))]) fun ds =>
 some (.agg ds), some (.bool true)]) fun ds => some (ds, (sg.set t9r0 (SObj.arr 1 []))))) := headP_of [] (by kernel_rfl)
theorem fix_term_putting_in (x0 : Nat) (x1 : DV) (sg : List SObj) : (run cfg).r F_term_putting_in [(.undef, (.ptr x0 0)), (x1, .val)] sg = P_term_putting_in (run cfg) x0 x1 sg :=
 (fix_raw (C := cfg) (f := F_term_putting_in) (s := sig_term_putting_in) (fn := Tryz.f85) (c := code_term_putting_in) (by kernel_rfl) Tryz.func85 (by kernel_rfl)).trans (by kernel_rfl)
theorem call_term_putting_in (x0 : Nat) (x1 : DV) (sg : List SObj) {q : List DV × List SObj} (h : P_term_putting_in (run cfg) x0 x1 sg = some q) : (run cfg).r F_term_putting_in [(.undef, (.ptr x0 0)), (x1, .val)] sg = some q := (fix_term_putting_in x0 x1 sg).trans h
noncomputable def P_r01_lower (R : Orc) (x0 : DV) : Option DV := eP Tryz.f86 fl_r01_lower R [] (initSt Tryz.f86 [(x0, .val)] [])
theorem eq_r01_lower (R : Orc) (x0 : DV) : P_r01_lower R x0 =
 (ob (dBin .geq x0 (.int .u8 97)) fun d1 => ogd d1 (ob (dBin .leq x0 (.int .u8 122)) fun d2 => some d2) (some (.bool false)) none) := evP_of [] (by kernel_rfl)
theorem call_r01_lower (x0 : DV) {d : DV} (h : P_r01_lower (run cfg) x0 = some d) : (run cfg).p F_r01_lower [x0] = some d := callE Tryz.func86 (by kernel_rfl) (by kernel_rfl) (by kernel_rfl) h
noncomputable def P_r01_part (R : Orc) (x0 : DV) : Option DV := eP Tryz.f87 fl_r01_part R [] (initSt Tryz.f87 [(x0, .val)] [])
set_option maxRecDepth 100000 in
theorem eq_r01_part (R : Orc) (x0 : DV) : P_r01_part R x0 =
 (ob (R.p F_r01_lower [x0]) fun d1 => ogd d1 (some (.bool true)) (ob (R.p F_r01_digit [x0]) fun d2 => ogd d2 (some (.bool true)) (ob (dBin .geq x0 (.int .u8 65)) fun d3 => ogd d3 (ob (dBin .leq x0 (.int .u8 90)) fun d4 => ogd d4 (some (.bool true)) (ob (dBin .eql x0 (.int .u8 95)) fun d5 => ogd d5 (some (.bool true)) (ob (dBin .eql x0 (.int .u8 39)) fun d6 => some d6) none) none) (ob (dBin .eql x0 (.int .u8 95)) fun d7 => ogd d7 (some (.bool true)) (ob (dBin .eql x0 (.int .u8 39)) fun d8 => some d8) none) none) none) none) := evP_of [] (by kernel_rfl)
theorem call_r01_part (x0 : DV) {d : DV} (h : P_r01_part (run cfg) x0 = some d) : (run cfg).p F_r01_part [x0] = some d := callE Tryz.func87 (by kernel_rfl) (by kernel_rfl) (by kernel_rfl) h
noncomputable def P_r01_Key (R : Orc) (x0 : DV) : Option DV := eP Tryz.f88 fl_r01_Key R [] (initSt Tryz.f88 [(x0, .val)] [])
noncomputable def P_r01_Key_2h (R : Orc) (t0 t3 : DV) : Option DV := hP Tryz.f88 fl_r01_Key R [true, false, true, false] (mst 40 [(0, t0), (3, t3)] [] [] [])
noncomputable def P_r01_Key_8h (R : Orc) (t0 t4 t5 : DV) : Option DV := hP Tryz.f88 fl_r01_Key R [true, true, true, false, true, false] (mst 40 [(0, t0), (4, t4), (5, t5)] [] [] [])
theorem eq_r01_Key (R : Orc) (x0 : DV) : P_r01_Key R x0 =
 (P_r01_Key_2h R x0 (.int .i64 0)) := evP_of [] (by kernel_rfl)
theorem eq_r01_Key_2h (R : Orc) (t0 t3 : DV) : P_r01_Key_2h R t0 t3 =
 (ob (dLenS t0) fun d1 => ob (dBin .lss t3 d1) fun d2 => oif d2 (ob (dStrIdx t0 t3) fun d3 => ob (R.p F_r01_lower [d3]) fun d4 => ob (dUn .not d4) fun d5 => oif d5 (some (.bool false)) (ob (dBin .add t3 (.int .i64 1)) fun d6 => P_r01_Key_2h R t0 d6)) (ob (dBin .add (.str ⟨#[32]⟩) t0) fun d7 => ob (dBin .add d7 (.str ⟨#[32]⟩)) fun d8 => P_r01_Key_8h R t0 d8 (.int .i64 0))) := headP_of [] (by kernel_rfl)
theorem eq_r01_Key_8h (R : Orc) (t0 t4 t5 : DV) : P_r01_Key_8h R t0 t4 t5 =
 (ob (dLenS t4) fun d1 => ob (dBin .add t5 d1) fun d2 => ob (dBin .leq d2 (.int .i64 81)) fun d3 => oif d3 (ob (dLenS t0) fun d4 => ob (dBin .gtr d4 (.int .i64 0)) fun d5 => ogd d5 (ob (dLenS t4) fun d6 => ob (dBin .add t5 d6) fun d7 => ob (dSliceS (.str ⟨#[32, 108, 101, 116, 32, 114, 101, 99, 32, 105, 110, 32, 102, 117, 110, 32, 105, 102, 32, 116, 104, 101, 110, 32, 101, 108, 115, 101, 32, 109, 97, 116, 99, 104, 32, 119, 105, 116, 104, 32, 101, 110, 100, 32, 116, 114, 117, 101, 32, 102, 97, 108, 115, 101, 32, 105, 110, 116, 32, 98, 111, 111, 108, 32, 115, 116, 114, 105, 110, 103, 32, 117, 110, 105, 116, 32, 108, 105, 115, 116, 32]⟩) (some t5) (some d7)) fun d8 => ob (dBin .eql d8 t4) fun d9 => oif d9 (some (.bool true)) (ob (dBin .add t5 (.int .i64 1)) fun d10 => P_r01_Key_8h R t0 t4 d10)) (ob (dBin .add t5 (.int .i64 1)) fun d11 => P_r01_Key_8h R t0 t4 d11) none) (some (.bool false))) := headP_of [] (by kernel_rfl)
theorem call_r01_Key (x0 : DV) {d : DV} (h : P_r01_Key (run cfg) x0 = some d) : (run cfg).p F_r01_Key [x0] = some d := callE Tryz.func88 (by kernel_rfl) (by kernel_rfl) (by kernel_rfl) h
noncomputable def P_r17_free (R : Orc) (x0 x1 x2 : DV) : Option DV := eP Tryz.f89 fl_r17_free R [] (initSt Tryz.f89 [(x0, .val), (x1, .val), (x2, .val)] [])
noncomputable def P_r17_free_3 (R : Orc) (t1 t2 b3 : DV) : Option DV := eP Tryz.f89 fl_r17_free R [true, true] (mst 44 [(1, t1), (2, t2)] [(3, (.loc 3 0))] [(3, some (bxs b3 0 20))] [])
noncomputable def P_r17_free_4h (R : Orc) (t1 t2 t7 b3 : DV) : Option DV := hP Tryz.f89 fl_r17_free R [true, true, false, true, false] (mst 44 [(1, t1), (2, t2), (7, t7)] [(3, (.loc 3 0))] [(3, some (bxs b3 0 20))] [])
theorem eq_r17_free (R : Orc) (x0 x1 x2 : DV) : P_r17_free R x0 x1 x2 =
 (og (isAggN 20 x0) <| ob (dBin .eql (proj 0 x0) (.int .i64 1)) fun d1 => ogd d1 (ob (R.p F_r05_Has [x1, (proj 3 x0)]) fun d2 => ob (dUn .not d2) fun d3 => oif d3 (ob (R.p F_r05_Rise [x2, (proj 3 x0)]) fun d4 => P_r17_free_3 R x1 d4 x0) (P_r17_free_3 R x1 x2 x0)) (P_r17_free_3 R x1 x2 x0) none) := evP_of [3] (by kernel_rfl)
theorem eq_r17_free_3 (R : Orc) (t1 t2 b3 : DV) : P_r17_free_3 R t1 t2 b3 =
 (P_r17_free_4h R t1 t2 (.int .i64 0) b3) := evP_of [3] (by kernel_rfl)
theorem eq_r17_free_4h (R : Orc) (t1 t2 t7 b3 : DV) : P_r17_free_4h R t1 t2 t7 b3 =
 (ob (dLen (proj 19 b3)) fun d1 => ob (dBin .lss t7 d1) fun d2 => oif d2 (ob (dIdx 20 (proj 19 b3) t7) fun d3 => ob (dApp 1 (.list 1 []) t1) fun d4 => ob (R.p F_r17_Binds [(ag20 b3), t7]) fun d5 => ob (dApp 1 d4 d5) fun d6 => ob (R.p F_r17_free [(ag20 d3), d6, t2]) fun d7 => ob (dBin .add t7 (.int .i64 1)) fun d8 => P_r17_free_4h R t1 d7 d8 b3) (some t2)) := headP_of [3] (by kernel_rfl)
theorem call_r17_free (x0 x1 x2 : DV) {d : DV} (h : P_r17_free (run cfg) x0 x1 x2 = some d) : (run cfg).p F_r17_free [x0, x1, x2] = some d := callE Tryz.func89 (by kernel_rfl) (by kernel_rfl) (by kernel_rfl) h
noncomputable def P_r05_Has (R : Orc) (x0 x1 : DV) : Option DV := eP Tryz.f90 fl_r05_Has R [] (initSt Tryz.f90 [(x0, .val), (x1, .val)] [])
noncomputable def P_r05_Has_2h (R : Orc) (t0 t1 t5 : DV) : Option DV := hP Tryz.f90 fl_r05_Has R [true, false, true, false] (mst 18 [(0, t0), (1, t1), (5, t5)] [] [] [])
theorem eq_r05_Has (R : Orc) (x0 x1 : DV) : P_r05_Has R x0 x1 =
 (P_r05_Has_2h R x0 x1 (.int .i64 0)) := evP_of [] (by kernel_rfl)
theorem eq_r05_Has_2h (R : Orc) (t0 t1 t5 : DV) : P_r05_Has_2h R t0 t1 t5 =
 (ob (dLen t0) fun d1 => ob (dBin .lss t5 d1) fun d2 => oif d2 (ob (dIdx 1 t0 t5) fun d3 => og (isLeaf d3) <| ob (dBin .eql d3 t1) fun d4 => oif d4 (some (.bool true)) (ob (dBin .add t5 (.int .i64 1)) fun d5 => P_r05_Has_2h R t0 t1 d5)) (some (.bool false))) := headP_of [] (by kernel_rfl)
theorem call_r05_Has (x0 x1 : DV) {d : DV} (h : P_r05_Has (run cfg) x0 x1 = some d) : (run cfg).p F_r05_Has [x0, x1] = some d := callE Tryz.func90 (by kernel_rfl) (by kernel_rfl) (by kernel_rfl) h
noncomputable def P_r17_Binds (R : Orc) (x0 x1 : DV) : Option DV := eP Tryz.f91 fl_r17_Binds R [] (initSt Tryz.f91 [(x0, .val), (x1, .val)] [])
noncomputable def P_r17_Binds_5 (R : Orc) (t1 b2 : DV) : Option DV := eP Tryz.f91 fl_r17_Binds R [true, false, false, true, true] (mst 50 [(1, t1)] [(2, (.loc 2 0))] [(2, some (bxs b2 0 20))] [])
set_option maxRecDepth 100000 in
theorem eq_r17_Binds (R : Orc) (x0 x1 : DV) : P_r17_Binds R x0 x1 =
 (og (isAggN 20 x0) <| ob (dBin .eql (proj 0 x0) (.int .i64 9)) fun d1 => oif d1 (og (isCell (proj 3 x0)) <| some (.list 1 [(proj 3 x0)])) (ob (dBin .eql (proj 0 x0) (.int .i64 11)) fun d2 => ogd d2 (ob (dBin .eql x1 (.int .i64 1)) fun d3 => oif d3 (og (isCell (proj 3 x0)) <| some (.list 1 [(proj 3 x0)])) (ob (dBin .eql (proj 0 x0) (.int .i64 12)) fun d4 => ogd d4 (ob (dBin .eql x1 (.int .i64 1)) fun d5 => oif d5 (og (isCell (proj 3 x0)) <| some (.list 1 [(proj 3 x0)])) (P_r17_Binds_5 R x1 x0)) (P_r17_Binds_5 R x1 x0) none)) (ob (dBin .eql (proj 0 x0) (.int .i64 12)) fun d6 => ogd d6 (ob (dBin .eql x1 (.int .i64 1)) fun d7 => oif d7 (og (isCell (proj 3 x0)) <| some (.list 1 [(proj 3 x0)])) (P_r17_Binds_5 R x1 x0)) (P_r17_Binds_5 R x1 x0) none) none)) := evP_of [5] (by kernel_rfl)
theorem eq_r17_Binds_5 (R : Orc) (t1 b2 : DV) : P_r17_Binds_5 R t1 b2 =
 (ob (dBin .eql (proj 0 b2) (.int .i64 12)) fun d1 => oif d1 (og (isCell (proj 3 b2)) <| og (isCell (proj 4 b2)) <| some (.list 1 [(proj 3 b2), (proj 4 b2)])) (ob (dBin .eql (proj 0 b2) (.int .i64 14)) fun d2 => ogd d2 (ob (dBin .gtr t1 (.int .i64 0)) fun d3 => oif d3 (ob (dBin .sub t1 (.int .i64 1)) fun d4 => ob (dIdx 7 (proj 18 b2) d4) fun d5 => ob (R.p F_r05_Names [(ag7 d5)]) fun d6 => some d6) (some (.list 1 []))) (some (.list 1 [])) none)) := evP_of [5] (by kernel_rfl)
theorem call_r17_Binds (x0 x1 : DV) {d : DV} (h : P_r17_Binds (run cfg) x0 x1 = some d) : (run cfg).p F_r17_Binds [x0, x1] = some d := callE Tryz.func91 (by kernel_rfl) (by kernel_rfl) (by kernel_rfl) h
noncomputable def P_r16_Binds (R : Orc) (x0 x1 : DV) : Option DV := eP Tryz.f92 fl_r16_Binds R [] (initSt Tryz.f92 [(x0, .val), (x1, .val)] [])
noncomputable def P_r16_Binds_3h (R : Orc) (t0 t1 t5 t6 : DV) : Option DV := hP Tryz.f92 fl_r16_Binds R [true, true, false, true, false] (mst 26 [(0, t0), (1, t1), (5, t5), (6, t6)] [(5, .own)] [] [])
theorem eq_r16_Binds (R : Orc) (x0 x1 : DV) : P_r16_Binds R x0 x1 =
 (P_r16_Binds_3h R x0 x1 (.list 4 []) (.int .i64 0)) := evP_of [] (by kernel_rfl)
theorem eq_r16_Binds_3h (R : Orc) (t0 t1 t5 t6 : DV) : P_r16_Binds_3h R t0 t1 t5 t6 =
 (ob (dLen t0) fun d1 => ob (dBin .lss t6 d1) fun d2 => oif d2 (ob (dIdx 1 t0 t6) fun d3 => og (isLeaf d3) <| ob (dIdx 3 t1 t6) fun d4 => og (isCell d3) <| ob (dApp 4 t5 (.list 4 [(.agg [d3, (proj 0 d4), (proj 1 d4), (proj 2 d4)])])) fun d5 => ob (dBin .add t6 (.int .i64 1)) fun d6 => P_r16_Binds_3h R t0 t1 d5 d6) (some t5)) := headP_of [] (by kernel_rfl)
theorem call_r16_Binds (x0 x1 : DV) {d : DV} (h : P_r16_Binds (run cfg) x0 x1 = some d) : (run cfg).p F_r16_Binds [x0, x1] = some d := callE Tryz.func92 (by kernel_rfl) (by kernel_rfl) (by kernel_rfl) h
noncomputable def P_r03_SameAll (R : Orc) (x0 x1 : DV) : Option DV := eP Tryz.f93 fl_r03_SameAll R [] (initSt Tryz.f93 [(x0, .val), (x1, .val)] [])
noncomputable def P_r03_SameAll_4h (R : Orc) (t0 t1 t5 : DV) : Option DV := hP Tryz.f93 fl_r03_SameAll R [true, true, false, true, false] (mst 27 [(0, t0), (1, t1), (5, t5)] [] [] [])
theorem eq_r03_SameAll (R : Orc) (x0 x1 : DV) : P_r03_SameAll R x0 x1 =
 (ob (dLen x0) fun d1 => ob (dLen x1) fun d2 => ob (dBin .neq d1 d2) fun d3 => oif d3 (some (.bool false)) (P_r03_SameAll_4h R x0 x1 (.int .i64 0))) := evP_of [] (by kernel_rfl)
theorem eq_r03_SameAll_4h (R : Orc) (t0 t1 t5 : DV) : P_r03_SameAll_4h R t0 t1 t5 =
 (ob (dLen t0) fun d1 => ob (dBin .lss t5 d1) fun d2 => oif d2 (ob (dIdx 3 t0 t5) fun d3 => ob (dIdx 3 t1 t5) fun d4 => ob (R.p F_r03_Same [(ag3 d3), (ag3 d4)]) fun d5 => ob (dUn .not d5) fun d6 => oif d6 (some (.bool false)) (ob (dBin .add t5 (.int .i64 1)) fun d7 => P_r03_SameAll_4h R t0 t1 d7)) (some (.bool true))) := headP_of [] (by kernel_rfl)
theorem call_r03_SameAll (x0 x1 : DV) {d : DV} (h : P_r03_SameAll (run cfg) x0 x1 = some d) : (run cfg).p F_r03_SameAll [x0, x1] = some d := callE Tryz.func93 (by kernel_rfl) (by kernel_rfl) (by kernel_rfl) h
noncomputable def P_r03_Same (R : Orc) (x0 x1 : DV) : Option DV := eP Tryz.f94 fl_r03_Same R [] (initSt Tryz.f94 [(x0, .val), (x1, .val)] [])
noncomputable def P_r03_Same_4h (R : Orc) (t5 b2 b3 : DV) : Option DV := hP Tryz.f94 fl_r03_Same R [true, true, false, true, false] (mst 46 [(5, t5)] [(2, (.loc 2 0)), (3, (.loc 3 0))] [(2, some (bxs b2 0 3)), (3, some (bxs b3 0 3))] [])
set_option maxRecDepth 100000 in
theorem eq_r03_Same (R : Orc) (x0 x1 : DV) : P_r03_Same R x0 x1 =
 (og (isAggN 3 x0) <| og (isAggN 3 x1) <| ob (dBin .neq (proj 0 x0) (proj 0 x1)) fun d1 => ogd d1 (some (.bool false)) (ob (dBin .neq (proj 1 x0) (proj 1 x1)) fun d2 => ogd d2 (some (.bool false)) (ob (dLen (proj 2 x0)) fun d3 => ob (dLen (proj 2 x1)) fun d4 => ob (dBin .neq d3 d4) fun d5 => oif d5 (some (.bool false)) (P_r03_Same_4h R (.int .i64 0) x0 x1)) none) none) := evP_of [] (by kernel_rfl)
theorem eq_r03_Same_4h (R : Orc) (t5 b2 b3 : DV) : P_r03_Same_4h R t5 b2 b3 =
 (ob (dLen (proj 2 b2)) fun d1 => ob (dBin .lss t5 d1) fun d2 => oif d2 (ob (dIdx 3 (proj 2 b2) t5) fun d3 => ob (dIdx 3 (proj 2 b3) t5) fun d4 => ob (R.p F_r03_Same [(ag3 d3), (ag3 d4)]) fun d5 => ob (dUn .not d5) fun d6 => oif d6 (some (.bool false)) (ob (dBin .add t5 (.int .i64 1)) fun d7 => P_r03_Same_4h R d7 b2 b3)) (some (.bool true))) := headP_of [] (by kernel_rfl)
theorem call_r03_Same (x0 x1 : DV) {d : DV} (h : P_r03_Same (run cfg) x0 x1 = some d) : (run cfg).p F_r03_Same [x0, x1] = some d := callE Tryz.func94 (by kernel_rfl) (by kernel_rfl) (by kernel_rfl) h
noncomputable def P_r05_SameAt (R : Orc) (x0 x1 : DV) : Option DV := eP Tryz.f95 fl_r05_SameAt R [] (initSt Tryz.f95 [(x0, .val), (x1, .val)] [])
noncomputable def P_r05_SameAt_4h (R : Orc) (t5 b2 b3 : DV) : Option DV := hP Tryz.f95 fl_r05_SameAt R [true, true, false, true, false] (mst 56 [(5, t5)] [(2, (.loc 2 0)), (3, (.loc 3 0))] [(2, some (bxs b2 0 16)), (3, some (bxs b3 0 16))] [])
noncomputable def P_r05_SameAt_9h (R : Orc) (t6 b2 b3 : DV) : Option DV := hP Tryz.f95 fl_r05_SameAt R [true, true, true, false, true, false] (mst 56 [(6, t6)] [(2, (.loc 2 0)), (3, (.loc 3 0))] [(2, some (bxs b2 0 16)), (3, some (bxs b3 0 16))] [])
theorem eq_r05_SameAt (R : Orc) (x0 x1 : DV) : P_r05_SameAt R x0 x1 =
 (og (isAggN 16 x0) <| og (isAggN 16 x1) <| ob (R.p F_r05_Same [(ag16 x0), (ag16 x1)]) fun d1 => ob (dUn .not d1) fun d2 => ogd d2 (some (.bool false)) (ob (dEqA [.int, .int] (.agg [(proj 1 x0), (proj 2 x0)]) (.agg [(proj 1 x1), (proj 2 x1)])) fun b3 => oif (.bool !b3) (some (.bool false)) (P_r05_SameAt_4h R (.int .i64 0) x0 x1)) none) := evP_of [] (by kernel_rfl)
theorem eq_r05_SameAt_4h (R : Orc) (t5 b2 b3 : DV) : P_r05_SameAt_4h R t5 b2 b3 =
 (ob (dLen (proj 14 b2)) fun d1 => ob (dBin .lss t5 d1) fun d2 => oif d2 (ob (dIdx 7 (proj 14 b2) t5) fun d3 => ob (dIdx 7 (proj 14 b3) t5) fun d4 => ob (R.p F_r05_patAt [(ag7 d3), (ag7 d4)]) fun d5 => ob (dUn .not d5) fun d6 => oif d6 (some (.bool false)) (ob (dBin .add t5 (.int .i64 1)) fun d7 => P_r05_SameAt_4h R d7 b2 b3)) (P_r05_SameAt_9h R (.int .i64 0) b2 b3)) := headP_of [] (by kernel_rfl)
theorem eq_r05_SameAt_9h (R : Orc) (t6 b2 b3 : DV) : P_r05_SameAt_9h R t6 b2 b3 =
 (ob (dLen (proj 15 b2)) fun d1 => ob (dBin .lss t6 d1) fun d2 => oif d2 (ob (dIdx 16 (proj 15 b2) t6) fun d3 => ob (dIdx 16 (proj 15 b3) t6) fun d4 => ob (R.p F_r05_SameAt [(ag16 d3), (ag16 d4)]) fun d5 => ob (dUn .not d5) fun d6 => oif d6 (some (.bool false)) (ob (dBin .add t6 (.int .i64 1)) fun d7 => P_r05_SameAt_9h R d7 b2 b3)) (some (.bool true))) := headP_of [] (by kernel_rfl)
theorem call_r05_SameAt (x0 x1 : DV) {d : DV} (h : P_r05_SameAt (run cfg) x0 x1 = some d) : (run cfg).p F_r05_SameAt [x0, x1] = some d := callE Tryz.func95 (by kernel_rfl) (by kernel_rfl) (by kernel_rfl) h
noncomputable def P_slices_Equal__int_int (R : Orc) (x0 x1 : DV) : Option DV := eP Tryz.f96 fl_slices_Equal__int_int R [] (initSt Tryz.f96 [(x0, .val), (x1, .val)] [])
noncomputable def P_slices_Equal__int_int_4h (R : Orc) (t0 t1 t12 t13 : DV) : Option DV := hP Tryz.f96 fl_slices_Equal__int_int R [true, true, false, true, false] (mst 26 [(0, t0), (1, t1), (12, t12), (13, t13)] [] [] [])
theorem eq_slices_Equal__int_int (R : Orc) (x0 x1 : DV) : P_slices_Equal__int_int R x0 x1 =
 (ob (dLen x0) fun d1 => ob (dLen x1) fun d2 => ob (dBin .neq d1 d2) fun d3 => oif d3 (some (.bool false)) (ob (dLen x0) fun d4 => P_slices_Equal__int_int_4h R x0 x1 d4 (.int .i64 0))) := evP_of [] (by kernel_rfl)
theorem eq_slices_Equal__int_int_4h (R : Orc) (t0 t1 t12 t13 : DV) : P_slices_Equal__int_int_4h R t0 t1 t12 t13 =
 (ob (dBin .lss t13 t12) fun d1 => oif d1 (ob (dIdx 1 t0 t13) fun d2 => og (isLeaf d2) <| ob (dIdx 1 t1 t13) fun d3 => og (isLeaf d3) <| ob (dBin .neq d2 d3) fun d4 => oif d4 (some (.bool false)) (ob (dBin .add t13 (.int .i64 1)) fun d5 => P_slices_Equal__int_int_4h R t0 t1 t12 d5)) (some (.bool true))) := headP_of [] (by kernel_rfl)
theorem call_slices_Equal__int_int (x0 x1 : DV) {d : DV} (h : P_slices_Equal__int_int (run cfg) x0 x1 = some d) : (run cfg).p F_slices_Equal__int_int [x0, x1] = some d := callE Tryz.func96 (by kernel_rfl) (by kernel_rfl) (by kernel_rfl) h
end Go.Su

/-
 Equations of the program's functions: by program.
-/
namespace Go.Su
open Go.Proofs
set_option linter.unusedVariables false
noncomputable def P_typ_Same (R : Orc) (x0 x1 : DV) : Option DV := eP Tryz.f97 fl_typ_Same R [] (initSt Tryz.f97 [(x0, .val), (x1, .val)] [])
noncomputable def P_typ_Same_4h (R : Orc) (t29 t30 t31 b3 : DV) : Option DV := hP Tryz.f97 fl_typ_Same R [true, true, false, true, false] (mst 45 [(29, t29), (30, t30), (31, t31)] [(3, (.loc 3 0))] [(3, some (bxs b3 0 3))] [])
set_option maxRecDepth 100000 in
theorem eq_typ_Same (R : Orc) (x0 x1 : DV) : P_typ_Same R x0 x1 =
 (og (isAggN 3 x0) <| og (isAggN 3 x1) <| ob (dBin .neq (proj 0 x0) (proj 0 x1)) fun d1 => ogd d1 (some (.bool false)) (ob (dBin .neq (proj 1 x0) (proj 1 x1)) fun d2 => ogd d2 (some (.bool false)) (ob (dLen (proj 2 x0)) fun d3 => ob (dLen (proj 2 x1)) fun d4 => ob (dBin .neq d3 d4) fun d5 => oif d5 (some (.bool false)) (ob (dLen (proj 2 x0)) fun d6 => P_typ_Same_4h R (proj 2 x0) d6 (.int .i64 0) x1)) none) none) := evP_of [] (by kernel_rfl)
theorem eq_typ_Same_4h (R : Orc) (t29 t30 t31 b3 : DV) : P_typ_Same_4h R t29 t30 t31 b3 =
 (ob (dBin .lss t31 t30) fun d1 => oif d1 (ob (dIdx 3 t29 t31) fun d2 => ob (dIdx 3 (proj 2 b3) t31) fun d3 => ob (R.p F_typ_Same [(ag3 d2), (ag3 d3)]) fun d4 => ob (dUn .not d4) fun d5 => oif d5 (some (.bool false)) (ob (dBin .add t31 (.int .i64 1)) fun d6 => P_typ_Same_4h R t29 t30 d6 b3)) (some (.bool true))) := headP_of [] (by kernel_rfl)
theorem call_typ_Same (x0 x1 : DV) {d : DV} (h : P_typ_Same (run cfg) x0 x1 = some d) : (run cfg).p F_typ_Same [x0, x1] = some d := callE Tryz.func97 (by kernel_rfl) (by kernel_rfl) (by kernel_rfl) h
noncomputable def code_slices_EqualFunc__api_Type__api_Type_api_Type_api_Type : Code := Tryz.f98.body.getD .skip
noncomputable def P_slices_EqualFunc__api_Type__api_Type_api_Type_api_Type (R : Orc) (x0 x1 : DV) (sg : List SObj) : Option (List DV × List SObj) := evP cfg R fl_slices_EqualFunc__api_Type__api_Type_api_Type_api_Type (retR cfg.P Tryz.f98 sig_slices_EqualFunc__api_Type__api_Type_api_Type_api_Type) [] code_slices_EqualFunc__api_Type__api_Type_api_Type_api_Type (initSt Tryz.f98 [(x0, .val), (x1, .val), (.undef, (.fn 97 []))] sg)
noncomputable def P_slices_EqualFunc__api_Type__api_Type_api_Type_api_Type_4h (R : Orc) (t1 t15 t16 t17 : DV) (sg : List SObj) : Option (List DV × List SObj) := headP cfg R fl_slices_EqualFunc__api_Type__api_Type_api_Type_api_Type (retR cfg.P Tryz.f98 sig_slices_EqualFunc__api_Type__api_Type_api_Type_api_Type) [true, true, false, true, false] code_slices_EqualFunc__api_Type__api_Type_api_Type_api_Type (mst 32 [(1, t1), (15, t15), (16, t16), (17, t17)] [(2, (.fn 97 []))] [] sg)
theorem eq_slices_EqualFunc__api_Type__api_Type_api_Type_api_Type (R : Orc) (x0 x1 : DV) (sg : List SObj) : P_slices_EqualFunc__api_Type__api_Type_api_Type_api_Type R x0 x1 sg =
 (ob (dLen x0) fun d1 => ob (dLen x1) fun d2 => ob (dBin .neq d1 d2) fun d3 => oif d3 (some ([(.bool false)], sg)) (ob (dLen x0) fun d4 => P_slices_EqualFunc__api_Type__api_Type_api_Type_api_Type_4h R x1 x0 d4 (.int .i64 0) sg)) := evP_of [] (by kernel_rfl)
theorem eq_slices_EqualFunc__api_Type__api_Type_api_Type_api_Type_4h (R : Orc) (t1 t15 t16 t17 : DV) (sg : List SObj) : P_slices_EqualFunc__api_Type__api_Type_api_Type_api_Type_4h R t1 t15 t16 t17 sg =
 (ob (dBin .lss t17 t16) fun d1 => oif d1 (ob (dIdx 3 t15 t17) fun d2 => ob (dIdx 3 t1 t17) fun d3 => ob (R.p F_typ_Same [(ag3 d2), (ag3 d3)]) fun d4 => ob (dUn .not d4) fun d5 => oif d5 (some ([(.bool false)], sg)) (ob (dBin .add t17 (.int .i64 1)) fun d6 => P_slices_EqualFunc__api_Type__api_Type_api_Type_api_Type_4h R t1 t15 t16 d6 sg)) (some ([(.bool true)], sg))) := headP_of [] (by kernel_rfl)
theorem fix_slices_EqualFunc__api_Type__api_Type_api_Type_api_Type (x0 x1 : DV) (sg : List SObj) : (run cfg).r F_slices_EqualFunc__api_Type__api_Type_api_Type_api_Type [(x0, .val), (x1, .val), (.undef, (.fn 97 []))] sg = P_slices_EqualFunc__api_Type__api_Type_api_Type_api_Type (run cfg) x0 x1 sg :=
 (fix_raw (C := cfg) (f := F_slices_EqualFunc__api_Type__api_Type_api_Type_api_Type) (s := sig_slices_EqualFunc__api_Type__api_Type_api_Type_api_Type) (fn := Tryz.f98) (c := code_slices_EqualFunc__api_Type__api_Type_api_Type_api_Type) (by kernel_rfl) Tryz.func98 (by kernel_rfl)).trans (by kernel_rfl)
theorem call_slices_EqualFunc__api_Type__api_Type_api_Type_api_Type (x0 x1 : DV) (sg : List SObj) {q : List DV × List SObj} (h : P_slices_EqualFunc__api_Type__api_Type_api_Type_api_Type (run cfg) x0 x1 sg = some q) : (run cfg).r F_slices_EqualFunc__api_Type__api_Type_api_Type_api_Type [(x0, .val), (x1, .val), (.undef, (.fn 97 []))] sg = some q := (fix_slices_EqualFunc__api_Type__api_Type_api_Type_api_Type x0 x1 sg).trans h
noncomputable def code_slices_EqualFunc__api_Pat__api_Pat_api_Pat_api_Pat : Code := Tryz.f99.body.getD .skip
noncomputable def P_slices_EqualFunc__api_Pat__api_Pat_api_Pat_api_Pat (R : Orc) (x0 x1 : DV) (sg : List SObj) : Option (List DV × List SObj) := evP cfg R fl_slices_EqualFunc__api_Pat__api_Pat_api_Pat_api_Pat (retR cfg.P Tryz.f99 sig_slices_EqualFunc__api_Pat__api_Pat_api_Pat_api_Pat) [] code_slices_EqualFunc__api_Pat__api_Pat_api_Pat_api_Pat (initSt Tryz.f99 [(x0, .val), (x1, .val), (.undef, (.fn 100 []))] sg)
noncomputable def P_slices_EqualFunc__api_Pat__api_Pat_api_Pat_api_Pat_4h (R : Orc) (t1 t15 t16 t17 : DV) (sg : List SObj) : Option (List DV × List SObj) := headP cfg R fl_slices_EqualFunc__api_Pat__api_Pat_api_Pat_api_Pat (retR cfg.P Tryz.f99 sig_slices_EqualFunc__api_Pat__api_Pat_api_Pat_api_Pat) [true, true, false, true, false] code_slices_EqualFunc__api_Pat__api_Pat_api_Pat_api_Pat (mst 32 [(1, t1), (15, t15), (16, t16), (17, t17)] [(2, (.fn 100 []))] [] sg)
theorem eq_slices_EqualFunc__api_Pat__api_Pat_api_Pat_api_Pat (R : Orc) (x0 x1 : DV) (sg : List SObj) : P_slices_EqualFunc__api_Pat__api_Pat_api_Pat_api_Pat R x0 x1 sg =
 (ob (dLen x0) fun d1 => ob (dLen x1) fun d2 => ob (dBin .neq d1 d2) fun d3 => oif d3 (some ([(.bool false)], sg)) (ob (dLen x0) fun d4 => P_slices_EqualFunc__api_Pat__api_Pat_api_Pat_api_Pat_4h R x1 x0 d4 (.int .i64 0) sg)) := evP_of [] (by kernel_rfl)
theorem eq_slices_EqualFunc__api_Pat__api_Pat_api_Pat_api_Pat_4h (R : Orc) (t1 t15 t16 t17 : DV) (sg : List SObj) : P_slices_EqualFunc__api_Pat__api_Pat_api_Pat_api_Pat_4h R t1 t15 t16 t17 sg =
 (ob (dBin .lss t17 t16) fun d1 => oif d1 (ob (dIdx 7 t15 t17) fun d2 => ob (dIdx 7 t1 t17) fun d3 => ob (R.p F_term_samePat [(ag7 d2), (ag7 d3)]) fun d4 => ob (dUn .not d4) fun d5 => oif d5 (some ([(.bool false)], sg)) (ob (dBin .add t17 (.int .i64 1)) fun d6 => P_slices_EqualFunc__api_Pat__api_Pat_api_Pat_api_Pat_4h R t1 t15 t16 d6 sg)) (some ([(.bool true)], sg))) := headP_of [] (by kernel_rfl)
theorem fix_slices_EqualFunc__api_Pat__api_Pat_api_Pat_api_Pat (x0 x1 : DV) (sg : List SObj) : (run cfg).r F_slices_EqualFunc__api_Pat__api_Pat_api_Pat_api_Pat [(x0, .val), (x1, .val), (.undef, (.fn 100 []))] sg = P_slices_EqualFunc__api_Pat__api_Pat_api_Pat_api_Pat (run cfg) x0 x1 sg :=
 (fix_raw (C := cfg) (f := F_slices_EqualFunc__api_Pat__api_Pat_api_Pat_api_Pat) (s := sig_slices_EqualFunc__api_Pat__api_Pat_api_Pat_api_Pat) (fn := Tryz.f99) (c := code_slices_EqualFunc__api_Pat__api_Pat_api_Pat_api_Pat) (by kernel_rfl) Tryz.func99 (by kernel_rfl)).trans (by kernel_rfl)
theorem call_slices_EqualFunc__api_Pat__api_Pat_api_Pat_api_Pat (x0 x1 : DV) (sg : List SObj) {q : List DV × List SObj} (h : P_slices_EqualFunc__api_Pat__api_Pat_api_Pat_api_Pat (run cfg) x0 x1 sg = some q) : (run cfg).r F_slices_EqualFunc__api_Pat__api_Pat_api_Pat_api_Pat [(x0, .val), (x1, .val), (.undef, (.fn 100 []))] sg = some q := (fix_slices_EqualFunc__api_Pat__api_Pat_api_Pat_api_Pat x0 x1 sg).trans h
noncomputable def P_term_samePat (R : Orc) (x0 x1 : DV) : Option DV := eP Tryz.f100 fl_term_samePat R [] (initSt Tryz.f100 [(x0, .val), (x1, .val)] [])
set_option maxRecDepth 100000 in
theorem eq_term_samePat (R : Orc) (x0 x1 : DV) : P_term_samePat R x0 x1 =
 (og (isAggN 7 x0) <| og (isAggN 7 x1) <| ob (dBin .eql (proj 0 x0) (proj 0 x1)) fun d1 => ogd d1 (ob (dEqA [.int, .int] (.agg [(proj 1 x0), (proj 2 x0)]) (.agg [(proj 1 x1), (proj 2 x1)])) fun b2 => ogd (.bool b2) (ob (dBin .eql (proj 3 x0) (proj 3 x1)) fun d3 => ogd d3 (ob (dBin .eql (proj 4 x0) (proj 4 x1)) fun d4 => ogd d4 (ob (dBin .eql (proj 5 x0) (proj 5 x1)) fun d5 => ogd d5 (ob (R.r F_slices_EqualFunc__api_Pat__api_Pat_api_Pat_api_Pat [((proj 6 x0), .val), ((proj 6 x1), .val), (.undef, (.fn 100 []))] []) fun q6 => some (q6.1.getD 0 .undef)) (some (.bool false)) none) (some (.bool false)) none) (some (.bool false)) none) (some (.bool false)) none) (some (.bool false)) none) := evP_of [] (by kernel_rfl)
theorem call_term_samePat (x0 x1 : DV) {d : DV} (h : P_term_samePat (run cfg) x0 x1 = some d) : (run cfg).p F_term_samePat [x0, x1] = some d := callE Tryz.func100 (by kernel_rfl) (by kernel_rfl) (by kernel_rfl) h
noncomputable def code_slices_EqualFunc__api_Term__api_Term_api_Term_api_Term : Code := Tryz.f101.body.getD .skip
noncomputable def P_slices_EqualFunc__api_Term__api_Term_api_Term_api_Term (R : Orc) (x0 x1 : DV) (sg : List SObj) : Option (List DV × List SObj) := evP cfg R fl_slices_EqualFunc__api_Term__api_Term_api_Term_api_Term (retR cfg.P Tryz.f101 sig_slices_EqualFunc__api_Term__api_Term_api_Term_api_Term) [] code_slices_EqualFunc__api_Term__api_Term_api_Term_api_Term (initSt Tryz.f101 [(x0, .val), (x1, .val), (.undef, (.fn 54 []))] sg)
noncomputable def P_slices_EqualFunc__api_Term__api_Term_api_Term_api_Term_4h (R : Orc) (t1 t15 t16 t17 : DV) (sg : List SObj) : Option (List DV × List SObj) := headP cfg R fl_slices_EqualFunc__api_Term__api_Term_api_Term_api_Term (retR cfg.P Tryz.f101 sig_slices_EqualFunc__api_Term__api_Term_api_Term_api_Term) [true, true, false, true, false] code_slices_EqualFunc__api_Term__api_Term_api_Term_api_Term (mst 32 [(1, t1), (15, t15), (16, t16), (17, t17)] [(2, (.fn 54 []))] [] sg)
theorem eq_slices_EqualFunc__api_Term__api_Term_api_Term_api_Term (R : Orc) (x0 x1 : DV) (sg : List SObj) : P_slices_EqualFunc__api_Term__api_Term_api_Term_api_Term R x0 x1 sg =
 (ob (dLen x0) fun d1 => ob (dLen x1) fun d2 => ob (dBin .neq d1 d2) fun d3 => oif d3 (some ([(.bool false)], sg)) (ob (dLen x0) fun d4 => P_slices_EqualFunc__api_Term__api_Term_api_Term_api_Term_4h R x1 x0 d4 (.int .i64 0) sg)) := evP_of [] (by kernel_rfl)
theorem eq_slices_EqualFunc__api_Term__api_Term_api_Term_api_Term_4h (R : Orc) (t1 t15 t16 t17 : DV) (sg : List SObj) : P_slices_EqualFunc__api_Term__api_Term_api_Term_api_Term_4h R t1 t15 t16 t17 sg =
 (ob (dBin .lss t17 t16) fun d1 => oif d1 (ob (dIdx 20 t15 t17) fun d2 => ob (dIdx 20 t1 t17) fun d3 => ob (R.p F_term_Same [(ag20 d2), (ag20 d3)]) fun d4 => ob (dUn .not d4) fun d5 => oif d5 (some ([(.bool false)], sg)) (ob (dBin .add t17 (.int .i64 1)) fun d6 => P_slices_EqualFunc__api_Term__api_Term_api_Term_api_Term_4h R t1 t15 t16 d6 sg)) (some ([(.bool true)], sg))) := headP_of [] (by kernel_rfl)
theorem fix_slices_EqualFunc__api_Term__api_Term_api_Term_api_Term (x0 x1 : DV) (sg : List SObj) : (run cfg).r F_slices_EqualFunc__api_Term__api_Term_api_Term_api_Term [(x0, .val), (x1, .val), (.undef, (.fn 54 []))] sg = P_slices_EqualFunc__api_Term__api_Term_api_Term_api_Term (run cfg) x0 x1 sg :=
 (fix_raw (C := cfg) (f := F_slices_EqualFunc__api_Term__api_Term_api_Term_api_Term) (s := sig_slices_EqualFunc__api_Term__api_Term_api_Term_api_Term) (fn := Tryz.f101) (c := code_slices_EqualFunc__api_Term__api_Term_api_Term_api_Term) (by kernel_rfl) Tryz.func101 (by kernel_rfl)).trans (by kernel_rfl)
theorem call_slices_EqualFunc__api_Term__api_Term_api_Term_api_Term (x0 x1 : DV) (sg : List SObj) {q : List DV × List SObj} (h : P_slices_EqualFunc__api_Term__api_Term_api_Term_api_Term (run cfg) x0 x1 sg = some q) : (run cfg).r F_slices_EqualFunc__api_Term__api_Term_api_Term_api_Term [(x0, .val), (x1, .val), (.undef, (.fn 54 []))] sg = some q := (fix_slices_EqualFunc__api_Term__api_Term_api_Term_api_Term x0 x1 sg).trans h
noncomputable def P_r03_None (R : Orc) (x0 : DV) : Option DV := eP Tryz.f102 fl_r03_None R [] (initSt Tryz.f102 [(x0, .val)] [])
theorem eq_r03_None (R : Orc) (x0 : DV) : P_r03_None R x0 =
 (og (isAggN 3 x0) <| ob (dBin .eql (proj 0 x0) (.int .i64 0)) fun d1 => ogd d1 (ob (dBin .eql (proj 1 x0) (.int .i64 0)) fun d2 => ogd d2 (ob (dLen (proj 2 x0)) fun d3 => ob (dBin .eql d3 (.int .i64 0)) fun d4 => some d4) (some (.bool false)) none) (some (.bool false)) none) := evP_of [] (by kernel_rfl)
theorem call_r03_None (x0 : DV) {d : DV} (h : P_r03_None (run cfg) x0 = some d) : (run cfg).p F_r03_None [x0] = some d := callE Tryz.func102 (by kernel_rfl) (by kernel_rfl) (by kernel_rfl) h
noncomputable def P_r08_Put (R : Orc) (x0 x1 : DV) : Option DV := eP Tryz.f103 fl_r08_Put R [] (initSt Tryz.f103 [(x0, .val), (x1, .val)] [])
noncomputable def P_r08_Put_3h (R : Orc) (t1 t5 b2 : DV) : Option DV := hP Tryz.f103 fl_r08_Put R [true, false, true, false, false, true, false] (mst 54 [(1, t1), (5, t5)] [(2, (.loc 2 0)), (4, (.loc 4 0))] [(2, some (bxs b2 0 3)), (4, some zb1)] [])
noncomputable def P_r08_Put_10h (R : Orc) (t1 t7 b2 b6_0 b6_2 : DV) : Option DV := hP Tryz.f103 fl_r08_Put R [true, true, true, false, true, false] (mst 54 [(1, t1), (7, t7)] [(2, (.loc 2 0)), (4, (.loc 4 0)), (6, (.loc 6 0))] [(2, some (bxs b2 0 3)), (4, some zb1), (6, some [(b6_0, .val), ((.int .i64 0), .val), (b6_2, .own)])] [])
theorem eq_r08_Put (R : Orc) (x0 x1 : DV) : P_r08_Put R x0 x1 =
 (og (isAggN 3 x0) <| ob (dBin .eql (proj 0 x0) (.int .i64 6)) fun d1 => oif d1 (P_r08_Put_3h R x1 (.int .i64 0) x0) (og (isCell (proj 0 x0)) <| P_r08_Put_10h R x1 (.int .i64 0) x0 (proj 0 x0) (.list 3 []))) := evP_of [] (by kernel_rfl)
theorem eq_r08_Put_3h (R : Orc) (t1 t5 b2 : DV) : P_r08_Put_3h R t1 t5 b2 =
 (ob (dLen t1) fun d1 => ob (dBin .lss t5 d1) fun d2 => oif d2 (ob (dIdx 4 t1 t5) fun d3 => ob (dBin .eql (proj 0 d3) (proj 1 b2)) fun d4 => oif d4 (ob (dIdx 4 t1 t5) fun d5 => some (.agg [(proj 1 d5), (proj 2 d5), (proj 3 d5)])) (ob (dBin .add t5 (.int .i64 1)) fun d6 => P_r08_Put_3h R t1 d6 b2)) (some (ag3 b2))) := headP_of [] (by kernel_rfl)
theorem eq_r08_Put_10h (R : Orc) (t1 t7 b2 b6_0 b6_2 : DV) : P_r08_Put_10h R t1 t7 b2 b6_0 b6_2 =
 (ob (dLen (proj 2 b2)) fun d1 => ob (dBin .lss t7 d1) fun d2 => oif d2 (ob (dIdx 3 (proj 2 b2) t7) fun d3 => ob (R.p F_r08_Put [(ag3 d3), t1]) fun d4 => og (isAggN 3 d4) <| ob (dApp 3 b6_2 (.list 3 [d4])) fun d5 => ob (dBin .add t7 (.int .i64 1)) fun d6 => P_r08_Put_10h R t1 d6 b2 b6_0 d5) (some (.agg [b6_0, (.int .i64 0), b6_2]))) := headP_of [] (by kernel_rfl)
theorem call_r08_Put (x0 x1 : DV) {d : DV} (h : P_r08_Put (run cfg) x0 x1 = some d) : (run cfg).p F_r08_Put [x0, x1] = some d := callE Tryz.func103 (by kernel_rfl) (by kernel_rfl) (by kernel_rfl) h
noncomputable def P_r05_pat (R : Orc) (x0 : DV) : Option DV := eP Tryz.f104 fl_r05_pat R [] (initSt Tryz.f104 [(x0, .val)] [])
noncomputable def P_r05_pat_25 (R : Orc) (t3 b1 b4_0 b4_3 b4_4 b4_5 : DV) : Option DV := eP Tryz.f104 fl_r05_pat R [true, true, true, true] (mst 92 [(3, t3)] [(1, (.loc 1 0)), (4, (.loc 4 0))] [(1, some (bxs b1 0 7)), (4, some [(b4_0, .val), ((.int .i64 0), .val), ((.int .i64 0), .val), (b4_3, .val), (b4_4, .val), (b4_5, .val), ((.list 7 []), .val)])] [])
noncomputable def P_r05_pat_28h (R : Orc) (t3 t5 b1 : DV) : Option DV := hP Tryz.f104 fl_r05_pat R [true, true, true, true, true, false, true, false] (mst 92 [(3, t3), (5, t5)] [(1, (.loc 1 0))] [(1, some (bxs b1 0 7))] [])
set_option maxRecDepth 100000 in
theorem eq_r05_pat (R : Orc) (x0 : DV) : P_r05_pat R x0 =
 (og (isAggN 7 x0) <| og (isCell (proj 0 x0)) <| ob (dBin .eql (proj 0 x0) (.int .i64 1)) fun d1 => oif d1 (P_r05_pat_25 R (.int .i64 0) x0 (proj 0 x0) (.str ⟨#[]⟩) (.int .i64 0) (.str ⟨#[]⟩)) (ob (dBin .eql (proj 0 x0) (.int .i64 6)) fun d2 => oif d2 (P_r05_pat_25 R (.int .i64 0) x0 (proj 0 x0) (.str ⟨#[]⟩) (.int .i64 0) (.str ⟨#[]⟩)) (ob (dBin .eql (proj 0 x0) (.int .i64 8)) fun d3 => oif d3 (P_r05_pat_25 R (.int .i64 0) x0 (proj 0 x0) (.str ⟨#[]⟩) (.int .i64 0) (.str ⟨#[]⟩)) (ob (dBin .eql (proj 0 x0) (.int .i64 2)) fun d4 => oif d4 (og (isCell (proj 3 x0)) <| ob (R.p F_r01_Name [(proj 3 x0)]) fun d5 => ob (dUn .not d5) fun d6 => oif d6 (some (.bool false)) (P_r05_pat_25 R (.int .i64 0) x0 (proj 0 x0) (proj 3 x0) (.int .i64 0) (.str ⟨#[]⟩))) (ob (dBin .eql (proj 0 x0) (.int .i64 3)) fun d7 => oif d7 (og (isCell (proj 4 x0)) <| P_r05_pat_25 R (.int .i64 0) x0 (proj 0 x0) (.str ⟨#[]⟩) (proj 4 x0) (.str ⟨#[]⟩)) (ob (dBin .eql (proj 0 x0) (.int .i64 4)) fun d8 => oif d8 (og (isCell (proj 4 x0)) <| ob (dBin .lss (proj 4 x0) (.int .i64 0)) fun d9 => ogd d9 (some (.bool false)) (ob (dBin .gtr (proj 4 x0) (.int .i64 1)) fun d10 => oif d10 (some (.bool false)) (P_r05_pat_25 R (.int .i64 0) x0 (proj 0 x0) (.str ⟨#[]⟩) (proj 4 x0) (.str ⟨#[]⟩))) none) (ob (dBin .eql (proj 0 x0) (.int .i64 5)) fun d11 =>
 oif d11 (og (isCell (proj 5 x0)) <| ob (dLenS (proj 5 x0)) fun d12 => ob (dBin .gtr d12 (.int .i64 200)) fun d13 => oif d13 (some (.bool false)) (P_r05_pat_25 R (.int .i64 0) x0 (proj 0 x0) (.str ⟨#[]⟩) (.int .i64 0) (proj 5 x0))) (ob (dBin .eql (proj 0 x0) (.int .i64 7)) fun d14 => oif d14 (P_r05_pat_25 R (.int .i64 2) x0 (proj 0 x0) (.str ⟨#[]⟩) (.int .i64 0) (.str ⟨#[]⟩)) (ob (dBin .eql (proj 0 x0) (.int .i64 9)) fun d15 => oif d15 (P_r05_pat_25 R (.int .i64 2) x0 (proj 0 x0) (.str ⟨#[]⟩) (.int .i64 0) (.str ⟨#[]⟩)) (some (.bool false))))))))))) := evP_of [25] (by kernel_rfl)
set_option maxRecDepth 100000 in
theorem eq_r05_pat_25 (R : Orc) (t3 b1 b4_0 b4_3 b4_4 b4_5 : DV) : P_r05_pat_25 R t3 b1 b4_0 b4_3 b4_4 b4_5 =
 (ob (dLen (proj 6 b1)) fun d1 => ob (dBin .neq d1 t3) fun d2 => ogd d2 (some (.bool false)) (ob (dBin .neq (proj 3 b1) b4_3) fun d3 => ogd d3 (some (.bool false)) (ob (dBin .neq (proj 4 b1) b4_4) fun d4 => ogd d4 (some (.bool false)) (ob (dBin .neq (proj 5 b1) b4_5) fun d5 => oif d5 (some (.bool false)) (P_r05_pat_28h R t3 (.int .i64 0) b1)) none) none) none) := evP_of [25] (by kernel_rfl)
theorem eq_r05_pat_28h (R : Orc) (t3 t5 b1 : DV) : P_r05_pat_28h R t3 t5 b1 =
 (ob (dBin .lss t5 t3) fun d1 => oif d1 (ob (dIdx 7 (proj 6 b1) t5) fun d2 => ob (R.p F_r05_pat [(ag7 d2)]) fun d3 => ob (dUn .not d3) fun d4 => oif d4 (some (.bool false)) (ob (dBin .add t5 (.int .i64 1)) fun d5 => P_r05_pat_28h R t3 d5 b1)) (some (.bool true))) := headP_of [25] (by kernel_rfl)
theorem call_r05_pat (x0 : DV) {d : DV} (h : P_r05_pat (run cfg) x0 = some d) : (run cfg).p F_r05_pat [x0] = some d := callE Tryz.func104 (by kernel_rfl) (by kernel_rfl) (by kernel_rfl) h
noncomputable def code_r05_names : Code := Tryz.f105.body.getD .skip
noncomputable def P_r05_names (R : Orc) (x0 x1 : DV) (sg : List SObj) : Option (List DV × List SObj) := evP cfg R fl_r05_names (retR cfg.P Tryz.f105 sig_r05_names) [] code_r05_names (initSt Tryz.f105 [(x0, .val), (x1, .own)] sg)
noncomputable def P_r05_names_4h (R : Orc) (t1 t5 b2 : DV) (sg : List SObj) : Option (List DV × List SObj) := headP cfg R fl_r05_names (retR cfg.P Tryz.f105 sig_r05_names) [true, true, false, true, false] code_r05_names (mst 29 [(1, t1), (5, t5)] [(1, .own), (2, (.loc 2 0))] [(2, some (bxs b2 0 7))] sg)
theorem eq_r05_names (R : Orc) (x0 x1 : DV) (sg : List SObj) : P_r05_names R x0 x1 sg =
 (og (isAggN 7 x0) <| ob (dBin .eql (proj 0 x0) (.int .i64 2)) fun d1 => oif d1 (og (isCell (proj 3 x0)) <| ob (dApp 1 x1 (.list 1 [(proj 3 x0)])) fun d2 => P_r05_names_4h R d2 (.int .i64 0) x0 sg) (P_r05_names_4h R x1 (.int .i64 0) x0 sg)) := evP_of [] (by kernel_rfl)
theorem eq_r05_names_4h (R : Orc) (t1 t5 b2 : DV) (sg : List SObj) : P_r05_names_4h R t1 t5 b2 sg =
 (ob (dLen (proj 6 b2)) fun d1 => ob (dBin .lss t5 d1) fun d2 => oif d2 (ob (dIdx 7 (proj 6 b2) t5) fun d3 => ob (R.r F_r05_names [((ag7 d3), .val), (t1, .own)] sg) fun q4 => ob (dBin .add t5 (.int .i64 1)) fun d5 => P_r05_names_4h R (q4.1.getD 0 .undef) d5 b2 q4.2) (some ([t1], sg))) := headP_of [] (by kernel_rfl)
theorem fix_r05_names (x0 x1 : DV) (sg : List SObj) : (run cfg).r F_r05_names [(x0, .val), (x1, .own)] sg = P_r05_names (run cfg) x0 x1 sg :=
 (fix_raw (C := cfg) (f := F_r05_names) (s := sig_r05_names) (fn := Tryz.f105) (c := code_r05_names) (by kernel_rfl) Tryz.func105 (by kernel_rfl)).trans (by kernel_rfl)
theorem call_r05_names (x0 x1 : DV) (sg : List SObj) {q : List DV × List SObj} (h : P_r05_names (run cfg) x0 x1 sg = some q) : (run cfg).r F_r05_names [(x0, .val), (x1, .own)] sg = some q := (fix_r05_names x0 x1 sg).trans h
noncomputable def P_term_shapeOf (R : Orc) (x0 : DV) : Option DV := eP Tryz.f111 fl_term_shapeOf R [] (initSt Tryz.f111 [(x0, .val)] [])
set_option maxRecDepth 100000 in
theorem eq_term_shapeOf (R : Orc) (x0 : DV) : P_term_shapeOf R x0 =
 (og (isAggN 20 x0) <| ob (dBin .eql (proj 0 x0) (.int .i64 1)) fun d1 => oif d1 (some (.tup [(.agg [(.bool true), (.bool false), (.bool false), (.bool false), (.bool false), (.bool false), (.bool false), (.bool true), (.bool false), (.bool false), (.bool false), (.bool false), (.int .i64 0)]), (.bool true)])) (ob (dBin .eql (proj 0 x0) (.int .i64 2)) fun d2 => oif d2 (some (.tup [zA2, (.bool true)])) (ob (dBin .eql (proj 0 x0) (.int .i64 3)) fun d3 => oif d3 (some (.tup [zA2, (.bool true)])) (ob (dBin .eql (proj 0 x0) (.int .i64 4)) fun d4 => oif d4 (some (.tup [(.agg [(.bool false), (.bool false), (.bool false), (.bool true), (.bool false), (.bool false), (.bool false), (.bool false), (.bool false), (.bool false), (.bool false), (.bool false), (.int .i64 0)]), (.bool true)])) (ob (dBin .eql (proj 0 x0) (.int .i64 5)) fun d5 => oif d5 (some (.tup [zA0, (.bool true)])) (ob (dBin .eql (proj 0 x0) (.int .i64 7)) fun d6 => oif d6 (some (.tup [(.agg [(.bool false), (.bool false), (.bool false), (.bool false), (.bool false), (.bool false), (.bool false), (.bool false), (.bool false), (.bool true), (.bool false), (.bool false), (.int .i64 0)]), (.bool true)])) (ob (dBin .eql (proj 0 x0) (.int .i64 6)) fun d7 =>
 oif d7 (some (.tup [zA1, (.bool true)])) (ob (dBin .eql (proj 0 x0) (.int .i64 8)) fun d8 => oif d8 (some (.tup [zA1, (.bool true)])) (ob (dBin .eql (proj 0 x0) (.int .i64 10)) fun d9 => oif d9 (some (.tup [zA1, (.bool true)])) (ob (dBin .eql (proj 0 x0) (.int .i64 9)) fun d10 => oif d10 (some (.tup [(.agg [(.bool true), (.bool false), (.bool false), (.bool false), (.bool false), (.bool false), (.bool false), (.bool false), (.bool false), (.bool true), (.bool false), (.bool false), (.int .i64 1)]), (.bool true)])) (ob (dBin .eql (proj 0 x0) (.int .i64 11)) fun d11 => oif d11 (some (.tup [(.agg [(.bool true), (.bool false), (.bool false), (.bool false), (.bool false), (.bool false), (.bool true), (.bool false), (.bool false), (.bool false), (.bool false), (.bool false), (.int .i64 2)]), (.bool true)])) (ob (dBin .eql (proj 0 x0) (.int .i64 12)) fun d12 => oif d12 (some (.tup [(.agg [(.bool true), (.bool true), (.bool false), (.bool false), (.bool false), (.bool false), (.bool true), (.bool false), (.bool false), (.bool true), (.bool true), (.bool false), (.int .i64 2)]), (.bool true)])) (ob (dBin .eql (proj 0 x0) (.int .i64 13)) fun d13 => oif d13 (some (.tup [(.agg [(.bool false), (.bool false), (.bool false), (.bool false), (.bool false), (.bool false), (.bool false), (.bool false), (.bool false), (.bool false), (.bool false), (.bool false), (.int .i64 3)]), (.bool true)])) (ob (dBin .eql (proj 0 x0) (.int .i64 14)) fun d14 =>
 oif d14 (ob (dLen (proj 18 x0)) fun d15 => ob (dBin .add d15 (.int .i64 1)) fun d16 => og (isCell d16) <| ob (dLen (proj 18 x0)) fun d17 => ob (dBin .gtr d17 (.int .i64 0)) fun d18 => some (.tup [(.agg [(.bool false), (.bool false), (.bool false), (.bool false), (.bool false), (.bool true), (.bool false), (.bool false), (.bool true), (.bool false), (.bool false), (.bool false), d16]), d18])) (ob (dBin .eql (proj 0 x0) (.int .i64 15)) fun d19 => oif d19 (some (.tup [(.agg [(.bool false), (.bool false), (.bool false), (.bool false), (.bool true), (.bool true), (.bool false), (.bool false), (.bool false), (.bool false), (.bool false), (.bool false), (.int .i64 2)]), (.bool true)])) (ob (dBin .eql (proj 0 x0) (.int .i64 16)) fun d20 => oif d20 (some (.tup [(.agg [(.bool false), (.bool false), (.bool false), (.bool false), (.bool false), (.bool false), (.bool false), (.bool false), (.bool false), (.bool true), (.bool true), (.bool true), (.int .i64 1)]), (.bool true)])) (some (.tup [zA0, (.bool false)])))))))))))))))))) := evP_of [] (by kernel_rfl)
theorem call_term_shapeOf (x0 : DV) {d : DV} (h : P_term_shapeOf (run cfg) x0 = some d) : (run cfg).p F_term_shapeOf [x0] = some d := callE Tryz.func111 (by kernel_rfl) (by kernel_rfl) (by kernel_rfl) h
noncomputable def P_term_named (R : Orc) (x0 x1 : DV) : Option DV := eP Tryz.f112 fl_term_named R [] (initSt Tryz.f112 [(x0, .val), (x1, .val)] [])
theorem eq_term_named (R : Orc) (x0 x1 : DV) : P_term_named R x0 x1 =
 (oif x0 (ob (R.p F_word_Name [x1]) fun d1 => some d1) (ob (dBin .eql x1 (.str ⟨#[]⟩)) fun d2 => some d2)) := evP_of [] (by kernel_rfl)
theorem call_term_named (x0 x1 : DV) {d : DV} (h : P_term_named (run cfg) x0 x1 = some d) : (run cfg).p F_term_named [x0, x1] = some d := callE Tryz.func112 (by kernel_rfl) (by kernel_rfl) (by kernel_rfl) h
noncomputable def P_term_typed (R : Orc) (x0 x1 : DV) : Option DV := eP Tryz.f113 fl_term_typed R [] (initSt Tryz.f113 [(x0, .val), (x1, .val)] [])
theorem eq_term_typed (R : Orc) (x0 x1 : DV) : P_term_typed R x0 x1 =
 (og (isAggN 3 x1) <| oif x0 (ob (R.p F_typ_Check [(ag3 x1)]) fun d1 => ob (dBin .eql d1 (.int .i64 0)) fun d2 => some d2) (ob (R.p F_term_none [(ag3 x1)]) fun d3 => some d3)) := evP_of [] (by kernel_rfl)
theorem call_term_typed (x0 x1 : DV) {d : DV} (h : P_term_typed (run cfg) x0 x1 = some d) : (run cfg).p F_term_typed [x0, x1] = some d := callE Tryz.func113 (by kernel_rfl) (by kernel_rfl) (by kernel_rfl) h
noncomputable def P_term_lists (R : Orc) (x0 : DV) : Option DV := eP Tryz.f114 fl_term_lists R [] (initSt Tryz.f114 [(x0, .val)] [])
noncomputable def P_term_lists_2h (R : Orc) (t10 t11 t12 b1 : DV) : Option DV := hP Tryz.f114 fl_term_lists R [true, false, true, false] (mst 45 [(10, t10), (11, t11), (12, t12)] [(1, (.loc 1 0))] [(1, some (bxs b1 0 20))] [])
noncomputable def P_term_lists_8h (R : Orc) (t24 t25 t26 b1 : DV) : Option DV := hP Tryz.f114 fl_term_lists R [true, true, false, true, false] (mst 45 [(24, t24), (25, t25), (26, t26)] [(1, (.loc 1 0))] [(1, some (bxs b1 0 20))] [])
noncomputable def P_term_lists_14h (R : Orc) (t35 t36 t37 : DV) : Option DV := hP Tryz.f114 fl_term_lists R [true, true, true, false, true, false] (mst 45 [(35, t35), (36, t36), (37, t37)] [] [] [])
theorem eq_term_lists (R : Orc) (x0 : DV) : P_term_lists R x0 =
 (og (isAggN 20 x0) <| ob (dLen (proj 10 x0)) fun d1 => P_term_lists_2h R (proj 10 x0) d1 (.int .i64 0) x0) := evP_of [] (by kernel_rfl)
theorem eq_term_lists_2h (R : Orc) (t10 t11 t12 b1 : DV) : P_term_lists_2h R t10 t11 t12 b1 =
 (ob (dBin .lss t12 t11) fun d1 => oif d1 (ob (dIdx 1 t10 t12) fun d2 => og (isLeaf d2) <| ob (dBin .lss d2 (.int .i64 0)) fun d3 => ogd d3 (some (.bool false)) (ob (dBin .gtr d2 (.int .i64 1048576)) fun d4 => oif d4 (some (.bool false)) (ob (dBin .add t12 (.int .i64 1)) fun d5 => P_term_lists_2h R t10 t11 d5 b1)) none) (ob (dLen (proj 17 b1)) fun d6 => P_term_lists_8h R (proj 17 b1) d6 (.int .i64 0) b1)) := headP_of [] (by kernel_rfl)
theorem eq_term_lists_8h (R : Orc) (t24 t25 t26 b1 : DV) : P_term_lists_8h R t24 t25 t26 b1 =
 (ob (dBin .lss t26 t25) fun d1 => oif d1 (ob (dIdx 3 t24 t26) fun d2 => ob (R.p F_typ_Check [(ag3 d2)]) fun d3 => ob (dBin .neq d3 (.int .i64 0)) fun d4 => oif d4 (some (.bool false)) (ob (dBin .add t26 (.int .i64 1)) fun d5 => P_term_lists_8h R t24 t25 d5 b1)) (ob (dLen (proj 18 b1)) fun d6 => P_term_lists_14h R (proj 18 b1) d6 (.int .i64 0))) := headP_of [] (by kernel_rfl)
theorem eq_term_lists_14h (R : Orc) (t35 t36 t37 : DV) : P_term_lists_14h R t35 t36 t37 =
 (ob (dBin .lss t37 t36) fun d1 => oif d1 (ob (dIdx 7 t35 t37) fun d2 => ob (R.p F_tree_CheckPat [(ag7 d2)]) fun d3 => ob (dBin .neq d3 (.int .i64 0)) fun d4 => oif d4 (some (.bool false)) (ob (dBin .add t37 (.int .i64 1)) fun d5 => P_term_lists_14h R t35 t36 d5)) (some (.bool true))) := headP_of [] (by kernel_rfl)
theorem call_term_lists (x0 : DV) {d : DV} (h : P_term_lists (run cfg) x0 = some d) : (run cfg).p F_term_lists [x0] = some d := callE Tryz.func114 (by kernel_rfl) (by kernel_rfl) (by kernel_rfl) h
noncomputable def code_slices_DeleteFunc__api_Bind_api_Bind : Code := Tryz.f115.body.getD .skip
noncomputable def P_slices_DeleteFunc__api_Bind_api_Bind (R : Orc) (x0i x0o x0n x1_0 : Nat) (sg : List SObj) : Option (List DV × List SObj) := evP cfg R fl_slices_DeleteFunc__api_Bind_api_Bind (retR cfg.P Tryz.f115 sig_slices_DeleteFunc__api_Bind_api_Bind) [] code_slices_DeleteFunc__api_Bind_api_Bind (initSt Tryz.f115 [(.undef, (.arr x0i 4 x0o x0n)), (.undef, (.fn 117 [(x1_0, 0)]))] sg)
noncomputable def P_slices_DeleteFunc__api_Bind_api_Bind_5h (R : Orc) (t0r0 t0r2 t0r3 t1c0 : Nat) (t5 t6 : DV) (sg : List SObj) : Option (List DV × List SObj) := headP cfg R fl_slices_DeleteFunc__api_Bind_api_Bind (retR cfg.P Tryz.f115 sig_slices_DeleteFunc__api_Bind_api_Bind) [true, true, true, false, true, false] code_slices_DeleteFunc__api_Bind_api_Bind (mst 42 [(5, t5), (6, t6)] [(0, (.arr t0r0 4 t0r2 t0r3)), (1, (.fn 117 [(t1c0, 0)]))] [] sg)
theorem eq_slices_DeleteFunc__api_Bind_api_Bind (R : Orc) (x0i x0o x0n x1_0 : Nat) (sg : List SObj) : P_slices_DeleteFunc__api_Bind_api_Bind R x0i x0o x0n x1_0 sg =
 (ob (R.r F_slices_IndexFunc__api_Bind_api_Bind [(.undef, (.arr x0i 4 x0o x0n)), (.undef, (.fn 117 [(x1_0, 0)]))] sg) fun q1 => ob (dBin .eql (q1.1.getD 0 .undef) (.int .i64 (-1))) fun d2 => oif d2 (ob (seqO [sealCell q1.2 (.undef, (.arr x0i 4 x0o x0n))]) fun ds => some (ds, (q1.2.set x0i (SObj.arr 1 [])))) (ob (dBin .add (q1.1.getD 0 .undef) (.int .i64 1)) fun d3 => P_slices_DeleteFunc__api_Bind_api_Bind_5h R x0i x0o x0n x1_0 (q1.1.getD 0 .undef) d3 q1.2)) := evP_of [] (by kernel_rfl)
theorem eq_slices_DeleteFunc__api_Bind_api_Bind_5h (R : Orc) (t0r0 t0r2 t0r3 t1c0 : Nat) (t5 t6 : DV) (sg : List SObj) : P_slices_DeleteFunc__api_Bind_api_Bind_5h R t0r0 t0r2 t0r3 t1c0 t5 t6 sg =
 (ob (dBin .lss t6 (.int .i64 t0r3)) fun d1 => oif d1 (ob (arrIdx t0r2 t0r3 t6) fun n2 => ob (sgArr sg t0r0) fun r3 => ob (r3.2[n2]?) fun d4 => og (r3.1 == 4) <| ob (R.r F_term_outside_1 [((.agg [(proj 0 d4), (proj 1 d4), (proj 2 d4), (proj 3 d4)]), .val), (.undef, (.ptr t1c0 0))] sg) fun q5 => ob (dUn .not (q5.1.getD 0 .undef)) fun d6 => oif d6 (ob (arrIdx t0r2 t0r3 t5) fun n7 => ob (sgArr q5.2 t0r0) fun r8 => ob (r8.2[n7]?) fun u9 => og (r8.1 == 4) <| ob (dBin .add t5 (.int .i64 1)) fun d10 => ob (dBin .add t6 (.int .i64 1)) fun d11 => P_slices_DeleteFunc__api_Bind_api_Bind_5h R t0r0 t0r2 t0r3 t1c0 d10 d11 (q5.2.set t0r0 (.arr 4 (r8.2.set n7 (.agg [(proj 0 d4), (proj 1 d4), (proj 2 d4), (proj 3 d4)]))))) (ob (dBin .add t6 (.int .i64 1)) fun d12 => P_slices_DeleteFunc__api_Bind_api_Bind_5h R t0r0 t0r2 t0r3 t1c0 t5 d12 q5.2)) (ob (bnd 0 (some t5)) fun n13 => if n13 ≤ t0r3 ∧ t0r3 ≤ t0r3 then (ob (sgArr sg t0r0) fun r14 => og (r14.1 == 4 && true && true && decide ((t0r2 + n13) + (t0r3 - n13) ≤ r14.2.length)) <| ob (bnd t0r3 (some t5)) fun n15 => if 0 ≤ n15 ∧ n15 ≤ t0r3 then (ob (seqO [sealCell (sg.set t0r0 (.arr 4 (r14.2.take (t0r2 + n13)))) (.undef, (.arr t0r0 4 (t0r2 + 0) (n15 - 0)))]) fun ds =>
 some (ds, ((sg.set t0r0 (.arr 4 (r14.2.take (t0r2 + n13)))).set t0r0 (SObj.arr 1 [])))) else none) else none)) := headP_of [] (by kernel_rfl)
theorem fix_slices_DeleteFunc__api_Bind_api_Bind (x0i x0o x0n x1_0 : Nat) (sg : List SObj) : (run cfg).r F_slices_DeleteFunc__api_Bind_api_Bind [(.undef, (.arr x0i 4 x0o x0n)), (.undef, (.fn 117 [(x1_0, 0)]))] sg = P_slices_DeleteFunc__api_Bind_api_Bind (run cfg) x0i x0o x0n x1_0 sg :=
 (fix_raw (C := cfg) (f := F_slices_DeleteFunc__api_Bind_api_Bind) (s := sig_slices_DeleteFunc__api_Bind_api_Bind) (fn := Tryz.f115) (c := code_slices_DeleteFunc__api_Bind_api_Bind) (by kernel_rfl) Tryz.func115 (by kernel_rfl)).trans (by kernel_rfl)
theorem call_slices_DeleteFunc__api_Bind_api_Bind (x0i x0o x0n x1_0 : Nat) (sg : List SObj) {q : List DV × List SObj} (h : P_slices_DeleteFunc__api_Bind_api_Bind (run cfg) x0i x0o x0n x1_0 sg = some q) : (run cfg).r F_slices_DeleteFunc__api_Bind_api_Bind [(.undef, (.arr x0i 4 x0o x0n)), (.undef, (.fn 117 [(x1_0, 0)]))] sg = some q := (fix_slices_DeleteFunc__api_Bind_api_Bind x0i x0o x0n x1_0 sg).trans h
noncomputable def code_term_outside_1 : Code := Tryz.f117.body.getD .skip
noncomputable def P_term_outside_1 (R : Orc) (x0 : DV) (x1 : Nat) (sg : List SObj) : Option (List DV × List SObj) := evP cfg R fl_term_outside_1 (retR cfg.P Tryz.f117 sig_term_outside_1) [] code_term_outside_1 (initSt Tryz.f117 [(x0, .val), (.undef, (.ptr x1 0))] sg)
theorem eq_term_outside_1 (R : Orc) (x0 : DV) (x1 : Nat) (sg : List SObj) : P_term_outside_1 R x0 x1 sg =
 (og (isAggN 4 x0) <| ob (sgBox sg x1) fun c1 => ob (cellDat c1 10) fun d2 => ob (R.p F_slices_Contains__int_int [d2, (proj 0 x0)]) fun d3 => some ([d3], sg)) := evP_of [] (by kernel_rfl)
theorem fix_term_outside_1 (x0 : DV) (x1 : Nat) (sg : List SObj) : (run cfg).r F_term_outside_1 [(x0, .val), (.undef, (.ptr x1 0))] sg = P_term_outside_1 (run cfg) x0 x1 sg :=
 (fix_raw (C := cfg) (f := F_term_outside_1) (s := sig_term_outside_1) (fn := Tryz.f117) (c := code_term_outside_1) (by kernel_rfl) Tryz.func117 (by kernel_rfl)).trans (by kernel_rfl)
theorem call_term_outside_1 (x0 : DV) (x1 : Nat) (sg : List SObj) {q : List DV × List SObj} (h : P_term_outside_1 (run cfg) x0 x1 sg = some q) : (run cfg).r F_term_outside_1 [(x0, .val), (.undef, (.ptr x1 0))] sg = some q := (fix_term_outside_1 x0 x1 sg).trans h
noncomputable def P_slices_Contains__int_int (R : Orc) (x0 x1 : DV) : Option DV := eP Tryz.f118 fl_slices_Contains__int_int R [] (initSt Tryz.f118 [(x0, .val), (x1, .val)] [])
theorem eq_slices_Contains__int_int (R : Orc) (x0 x1 : DV) : P_slices_Contains__int_int R x0 x1 =
 (ob (R.p F_slices_Index__int_int [x0, x1]) fun d1 => ob (dBin .geq d1 (.int .i64 0)) fun d2 => some d2) := evP_of [] (by kernel_rfl)
theorem call_slices_Contains__int_int (x0 x1 : DV) {d : DV} (h : P_slices_Contains__int_int (run cfg) x0 x1 = some d) : (run cfg).p F_slices_Contains__int_int [x0, x1] = some d := callE Tryz.func118 (by kernel_rfl) (by kernel_rfl) (by kernel_rfl) h
noncomputable def P_typ_arity (R : Orc) (x0 : DV) : Option DV := eP Tryz.f119 fl_typ_arity R [] (initSt Tryz.f119 [(x0, .val)] [])
theorem eq_typ_arity (R : Orc) (x0 : DV) : P_typ_arity R x0 =
 (ob (dBin .eql x0 (.int .i64 1)) fun d1 => oif d1 (some (.int .i64 0)) (ob (dBin .eql x0 (.int .i64 2)) fun d2 => oif d2 (some (.int .i64 0)) (ob (dBin .eql x0 (.int .i64 3)) fun d3 => oif d3 (some (.int .i64 0)) (ob (dBin .eql x0 (.int .i64 4)) fun d4 => oif d4 (some (.int .i64 0)) (ob (dBin .eql x0 (.int .i64 5)) fun d5 => oif d5 (some (.int .i64 0)) (ob (dBin .eql x0 (.int .i64 6)) fun d6 => oif d6 (some (.int .i64 0)) (ob (dBin .eql x0 (.int .i64 8)) fun d7 => oif d7 (some (.int .i64 1)) (ob (dBin .eql x0 (.int .i64 7)) fun d8 => oif d8 (some (.int .i64 2)) (ob (dBin .eql x0 (.int .i64 9)) fun d9 => oif d9 (some (.int .i64 2)) (some (.int .i64 (-1)))))))))))) := evP_of [] (by kernel_rfl)
theorem call_typ_arity (x0 : DV) {d : DV} (h : P_typ_arity (run cfg) x0 = some d) : (run cfg).p F_typ_arity [x0] = some d := callE Tryz.func119 (by kernel_rfl) (by kernel_rfl) (by kernel_rfl) h
end Go.Su

/-
 Equations of the program's functions: by program.
-/
namespace Go.Su
open Go.Proofs
set_option linter.unusedVariables false
noncomputable def P_term_binds (R : Orc) (x0 x1 : DV) : Option DV := eP Tryz.f120 fl_term_binds R [] (initSt Tryz.f120 [(x0, .val), (x1, .val)] [])
noncomputable def P_term_binds_5 (R : Orc) (t1 b2 : DV) : Option DV := eP Tryz.f120 fl_term_binds R [true, false, false, true, true] (mst 50 [(1, t1)] [(2, (.loc 2 0))] [(2, some (bxs b2 0 20))] [])
set_option maxRecDepth 100000 in
theorem eq_term_binds (R : Orc) (x0 x1 : DV) : P_term_binds R x0 x1 =
 (og (isAggN 20 x0) <| ob (dBin .eql (proj 0 x0) (.int .i64 9)) fun d1 => oif d1 (og (isCell (proj 3 x0)) <| some (.list 1 [(proj 3 x0)])) (ob (dBin .eql (proj 0 x0) (.int .i64 11)) fun d2 => ogd d2 (ob (dBin .eql x1 (.int .i64 1)) fun d3 => oif d3 (og (isCell (proj 3 x0)) <| some (.list 1 [(proj 3 x0)])) (ob (dBin .eql (proj 0 x0) (.int .i64 12)) fun d4 => ogd d4 (ob (dBin .eql x1 (.int .i64 1)) fun d5 => oif d5 (og (isCell (proj 3 x0)) <| some (.list 1 [(proj 3 x0)])) (P_term_binds_5 R x1 x0)) (P_term_binds_5 R x1 x0) none)) (ob (dBin .eql (proj 0 x0) (.int .i64 12)) fun d6 => ogd d6 (ob (dBin .eql x1 (.int .i64 1)) fun d7 => oif d7 (og (isCell (proj 3 x0)) <| some (.list 1 [(proj 3 x0)])) (P_term_binds_5 R x1 x0)) (P_term_binds_5 R x1 x0) none) none)) := evP_of [5] (by kernel_rfl)
theorem eq_term_binds_5 (R : Orc) (t1 b2 : DV) : P_term_binds_5 R t1 b2 =
 (ob (dBin .eql (proj 0 b2) (.int .i64 12)) fun d1 => oif d1 (og (isCell (proj 3 b2)) <| og (isCell (proj 4 b2)) <| some (.list 1 [(proj 3 b2), (proj 4 b2)])) (ob (dBin .eql (proj 0 b2) (.int .i64 14)) fun d2 => ogd d2 (ob (dBin .gtr t1 (.int .i64 0)) fun d3 => oif d3 (ob (dBin .sub t1 (.int .i64 1)) fun d4 => ob (dIdx 7 (proj 18 b2) d4) fun d5 => ob (R.r F_term_patNames [((ag7 d5), .val), ((.list 1 []), .own)] []) fun q6 => some (q6.1.getD 0 .undef)) (some (.list 1 []))) (some (.list 1 [])) none)) := evP_of [5] (by kernel_rfl)
theorem call_term_binds (x0 x1 : DV) {d : DV} (h : P_term_binds (run cfg) x0 x1 = some d) : (run cfg).p F_term_binds [x0, x1] = some d := callE Tryz.func120 (by kernel_rfl) (by kernel_rfl) (by kernel_rfl) h
noncomputable def P_slices_Contains__string_string (R : Orc) (x0 x1 : DV) : Option DV := eP Tryz.f123 fl_slices_Contains__string_string R [] (initSt Tryz.f123 [(x0, .val), (x1, .val)] [])
theorem eq_slices_Contains__string_string (R : Orc) (x0 x1 : DV) : P_slices_Contains__string_string R x0 x1 =
 (ob (R.p F_slices_Index__string_string [x0, x1]) fun d1 => ob (dBin .geq d1 (.int .i64 0)) fun d2 => some d2) := evP_of [] (by kernel_rfl)
theorem call_slices_Contains__string_string (x0 x1 : DV) {d : DV} (h : P_slices_Contains__string_string (run cfg) x0 x1 = some d) : (run cfg).p F_slices_Contains__string_string [x0, x1] = some d := callE Tryz.func123 (by kernel_rfl) (by kernel_rfl) (by kernel_rfl) h
noncomputable def P_r01_digit (R : Orc) (x0 : DV) : Option DV := eP Tryz.f124 fl_r01_digit R [] (initSt Tryz.f124 [(x0, .val)] [])
theorem eq_r01_digit (R : Orc) (x0 : DV) : P_r01_digit R x0 =
 (ob (dBin .geq x0 (.int .u8 48)) fun d1 => ogd d1 (ob (dBin .leq x0 (.int .u8 57)) fun d2 => some d2) (some (.bool false)) none) := evP_of [] (by kernel_rfl)
theorem call_r01_digit (x0 : DV) {d : DV} (h : P_r01_digit (run cfg) x0 = some d) : (run cfg).p F_r01_digit [x0] = some d := callE Tryz.func124 (by kernel_rfl) (by kernel_rfl) (by kernel_rfl) h
noncomputable def P_r05_Rise (R : Orc) (x0 x1 : DV) : Option DV := eP Tryz.f125 fl_r05_Rise R [] (initSt Tryz.f125 [(x0, .val), (x1, .val)] [])
noncomputable def P_r05_Rise_2h (R : Orc) (t0 t1 t5 : DV) : Option DV := hP Tryz.f125 fl_r05_Rise R [true, true, false, false] (mst 47 [(0, t0), (1, t1), (5, t5)] [] [] [])
noncomputable def P_r05_Rise_4 (R : Orc) (t0 t1 t5 : DV) : Option DV := eP Tryz.f125 fl_r05_Rise R [true, true, true] (mst 47 [(0, t0), (1, t1), (5, t5)] [] [] [])
noncomputable def P_r05_Rise_6 (R : Orc) (t0 t1 t5 : DV) : Option DV := eP Tryz.f125 fl_r05_Rise R [true, true, true, true] (mst 47 [(0, t0), (1, t1), (5, t5)] [] [] [])
theorem eq_r05_Rise (R : Orc) (x0 x1 : DV) : P_r05_Rise R x0 x1 =
 (P_r05_Rise_2h R x0 x1 (.int .i64 0)) := evP_of [4, 6] (by kernel_rfl)
theorem eq_r05_Rise_2h (R : Orc) (t0 t1 t5 : DV) : P_r05_Rise_2h R t0 t1 t5 =
 (ob (dLen t0) fun d1 => ob (dBin .lss t5 d1) fun d2 => ogd d2 (ob (dIdx 1 t0 t5) fun d3 => og (isLeaf d3) <| ob (dBin .lss d3 t1) fun d4 => oif d4 (ob (dBin .add t5 (.int .i64 1)) fun d5 => P_r05_Rise_2h R t0 t1 d5) (P_r05_Rise_4 R t0 t1 t5)) (P_r05_Rise_4 R t0 t1 t5) none) := headP_of [4, 6] (by kernel_rfl)
theorem eq_r05_Rise_4 (R : Orc) (t0 t1 t5 : DV) : P_r05_Rise_4 R t0 t1 t5 =
 (ob (dLen t0) fun d1 => ob (dBin .lss t5 d1) fun d2 => ogd d2 (ob (dIdx 1 t0 t5) fun d3 => og (isLeaf d3) <| ob (dBin .eql d3 t1) fun d4 => oif d4 (some t0) (P_r05_Rise_6 R t0 t1 t5)) (P_r05_Rise_6 R t0 t1 t5) none) := evP_of [4, 6] (by kernel_rfl)
theorem eq_r05_Rise_6 (R : Orc) (t0 t1 t5 : DV) : P_r05_Rise_6 R t0 t1 t5 =
 (ob (dSlice 1 t0 none (some t5)) fun d1 => ob (dApp 1 (.list 1 []) d1) fun d2 => og (isCell t1) <| ob (dApp 1 d2 (.list 1 [t1])) fun d3 => ob (dSlice 1 t0 (some t5) none) fun d4 => ob (dApp 1 d3 d4) fun d5 => some d5) := evP_of [4, 6] (by kernel_rfl)
theorem call_r05_Rise (x0 x1 : DV) {d : DV} (h : P_r05_Rise (run cfg) x0 x1 = some d) : (run cfg).p F_r05_Rise [x0, x1] = some d := callE Tryz.func125 (by kernel_rfl) (by kernel_rfl) (by kernel_rfl) h
noncomputable def P_r05_Same (R : Orc) (x0 x1 : DV) : Option DV := eP Tryz.f126 fl_r05_Same R [] (initSt Tryz.f126 [(x0, .val), (x1, .val)] [])
noncomputable def P_r05_Same_3 (R : Orc) (b2 b3 : DV) : Option DV := eP Tryz.f126 fl_r05_Same R [true, true] (mst 117 [] [(2, (.loc 2 0)), (3, (.loc 3 0))] [(2, some (bxs b2 0 16)), (3, some (bxs b3 0 16))] [])
noncomputable def P_r05_Same_6h (R : Orc) (t5 b2 b3 : DV) : Option DV := hP Tryz.f126 fl_r05_Same R [true, true, true, false, true, false] (mst 117 [(5, t5)] [(2, (.loc 2 0)), (3, (.loc 3 0))] [(2, some (bxs b2 0 16)), (3, some (bxs b3 0 16))] [])
noncomputable def P_r05_Same_11h (R : Orc) (t6 b2 b3 : DV) : Option DV := hP Tryz.f126 fl_r05_Same R [true, true, true, true, false, true, false] (mst 117 [(6, t6)] [(2, (.loc 2 0)), (3, (.loc 3 0))] [(2, some (bxs b2 0 16)), (3, some (bxs b3 0 16))] [])
set_option maxRecDepth 100000 in
theorem eq_r05_Same (R : Orc) (x0 x1 : DV) : P_r05_Same R x0 x1 =
 (og (isAggN 16 x0) <| og (isAggN 16 x1) <| ob (dBin .neq (proj 0 x0) (proj 0 x1)) fun d1 => ogd d1 (some (.bool false)) (ob (dBin .neq (proj 3 x0) (proj 3 x1)) fun d2 => ogd d2 (some (.bool false)) (ob (dBin .neq (proj 4 x0) (proj 4 x1)) fun d3 => ogd d3 (some (.bool false)) (ob (dBin .neq (proj 5 x0) (proj 5 x1)) fun d4 => ogd d4 (some (.bool false)) (ob (dBin .neq (proj 6 x0) (proj 6 x1)) fun d5 => ogd d5 (some (.bool false)) (ob (dBin .neq (proj 7 x0) (proj 7 x1)) fun d6 => ogd d6 (some (.bool false)) (ob (dLen (proj 14 x0)) fun d7 => ob (dLen (proj 14 x1)) fun d8 => ob (dBin .neq d7 d8) fun d9 => ogd d9 (some (.bool false)) (ob (dLen (proj 15 x0)) fun d10 => ob (dLen (proj 15 x1)) fun d11 => ob (dBin .neq d10 d11) fun d12 => oif d12 (some (.bool false)) (P_r05_Same_3 R x0 x1)) none) none) none) none) none) none) none) := evP_of [3] (by kernel_rfl)
theorem eq_r05_Same_3 (R : Orc) (b2 b3 : DV) : P_r05_Same_3 R b2 b3 =
 (ob (R.p F_r03_Same [(.agg [(proj 8 b2), (proj 9 b2), (proj 10 b2)]), (.agg [(proj 8 b3), (proj 9 b3), (proj 10 b3)])]) fun d1 => ob (dUn .not d1) fun d2 => ogd d2 (some (.bool false)) (ob (R.p F_r03_Same [(.agg [(proj 11 b2), (proj 12 b2), (proj 13 b2)]), (.agg [(proj 11 b3), (proj 12 b3), (proj 13 b3)])]) fun d3 => ob (dUn .not d3) fun d4 => oif d4 (some (.bool false)) (P_r05_Same_6h R (.int .i64 0) b2 b3)) none) := evP_of [3] (by kernel_rfl)
theorem eq_r05_Same_6h (R : Orc) (t5 b2 b3 : DV) : P_r05_Same_6h R t5 b2 b3 =
 (ob (dLen (proj 14 b2)) fun d1 => ob (dBin .lss t5 d1) fun d2 => oif d2 (ob (dIdx 7 (proj 14 b2) t5) fun d3 => ob (dIdx 7 (proj 14 b3) t5) fun d4 => ob (R.p F_r05_SamePat [(ag7 d3), (ag7 d4)]) fun d5 => ob (dUn .not d5) fun d6 => oif d6 (some (.bool false)) (ob (dBin .add t5 (.int .i64 1)) fun d7 => P_r05_Same_6h R d7 b2 b3)) (P_r05_Same_11h R (.int .i64 0) b2 b3)) := headP_of [3] (by kernel_rfl)
theorem eq_r05_Same_11h (R : Orc) (t6 b2 b3 : DV) : P_r05_Same_11h R t6 b2 b3 =
 (ob (dLen (proj 15 b2)) fun d1 => ob (dBin .lss t6 d1) fun d2 => oif d2 (ob (dIdx 16 (proj 15 b2) t6) fun d3 => ob (dIdx 16 (proj 15 b3) t6) fun d4 => ob (R.p F_r05_Same [(ag16 d3), (ag16 d4)]) fun d5 => ob (dUn .not d5) fun d6 => oif d6 (some (.bool false)) (ob (dBin .add t6 (.int .i64 1)) fun d7 => P_r05_Same_11h R d7 b2 b3)) (some (.bool true))) := headP_of [3] (by kernel_rfl)
theorem call_r05_Same (x0 x1 : DV) {d : DV} (h : P_r05_Same (run cfg) x0 x1 = some d) : (run cfg).p F_r05_Same [x0, x1] = some d := callE Tryz.func126 (by kernel_rfl) (by kernel_rfl) (by kernel_rfl) h
noncomputable def P_r05_patAt (R : Orc) (x0 x1 : DV) : Option DV := eP Tryz.f127 fl_r05_patAt R [] (initSt Tryz.f127 [(x0, .val), (x1, .val)] [])
noncomputable def P_r05_patAt_4h (R : Orc) (t5 b2 b3 : DV) : Option DV := hP Tryz.f127 fl_r05_patAt R [true, true, false, true, false] (mst 30 [(5, t5)] [(2, (.loc 2 0)), (3, (.loc 3 0))] [(2, some (bxs b2 0 7)), (3, some (bxs b3 0 7))] [])
theorem eq_r05_patAt (R : Orc) (x0 x1 : DV) : P_r05_patAt R x0 x1 =
 (og (isAggN 7 x0) <| og (isAggN 7 x1) <| ob (dEqA [.int, .int] (.agg [(proj 1 x0), (proj 2 x0)]) (.agg [(proj 1 x1), (proj 2 x1)])) fun b1 => oif (.bool !b1) (some (.bool false)) (P_r05_patAt_4h R (.int .i64 0) x0 x1)) := evP_of [] (by kernel_rfl)
theorem eq_r05_patAt_4h (R : Orc) (t5 b2 b3 : DV) : P_r05_patAt_4h R t5 b2 b3 =
 (ob (dLen (proj 6 b2)) fun d1 => ob (dBin .lss t5 d1) fun d2 => oif d2 (ob (dIdx 7 (proj 6 b2) t5) fun d3 => ob (dIdx 7 (proj 6 b3) t5) fun d4 => ob (R.p F_r05_patAt [(ag7 d3), (ag7 d4)]) fun d5 => ob (dUn .not d5) fun d6 => oif d6 (some (.bool false)) (ob (dBin .add t5 (.int .i64 1)) fun d7 => P_r05_patAt_4h R d7 b2 b3)) (some (.bool true))) := headP_of [] (by kernel_rfl)
theorem call_r05_patAt (x0 x1 : DV) {d : DV} (h : P_r05_patAt (run cfg) x0 x1 = some d) : (run cfg).p F_r05_patAt [x0, x1] = some d := callE Tryz.func127 (by kernel_rfl) (by kernel_rfl) (by kernel_rfl) h
noncomputable def code_tree_CheckPat : Code := Tryz.f129.body.getD .skip
noncomputable def P_tree_CheckPat (R : Orc) (x0 : DV) : Option DV := eP Tryz.f129 fl_tree_CheckPat R [] (initSt Tryz.f129 [(x0, .val)] [])
noncomputable def P_tree_CheckPat_r0 (R : Orc) (t0 t6 : DV) (sg : List SObj) : Option DV := eP Tryz.f129 fl_tree_CheckPat R [true, true, false, true, false] (mst 32 [(0, t0), (4, (.tup [])), (6, t6), (8, (.tup [])), (9, (.tup [])), (10, (.tup [])), (11, (.tup [])), (12, (.tup [])), (13, (.tup [])), (14, (.tup [])), (15, (.tup [])), (16, (.tup [])), (17, (.tup [])), (18, (.tup [])), (19, (.tup [])), (20, (.tup [])), (21, (.tup [])), (22, (.tup [])), (23, (.tup [])), (24, (.tup [])), (25, (.tup [])), (26, (.tup [])), (27, (.tup [])), (28, (.tup [])), (29, (.tup [])), (30, (.tup [])), (31, (.tup []))] [(1, (.ptr 0 0)), (2, (.ptr 1 0)), (3, (.ptr 3 0)), (5, (.map 2)), (7, (.fn 159 [(4, 0)]))] [] sg)
noncomputable def rcode_tree_CheckPat_r0 : Code := match (sub [true, true, false, true, false] code_tree_CheckPat []).1 with
 | .rangeFunc _ _ a b => .seq a b
 | c => c
noncomputable def X_tree_CheckPat_r0 (R : Orc) (t0 t6 : DV) (o : Out) (sg : List SObj) : Option DV := konP cfg R fl_tree_CheckPat (retP cfg.P Tryz.f129) [true, true, false, true, false] code_tree_CheckPat o (outerSt ⟨spread .undef 32 0 [(0, t0), (4, (.tup [])), (6, t6), (8, (.tup [])), (9, (.tup [])), (10, (.tup [])), (11, (.tup [])), (12, (.tup [])), (13, (.tup [])), (14, (.tup [])), (15, (.tup [])), (16, (.tup [])), (17, (.tup [])), (18, (.tup [])), (19, (.tup [])), (20, (.tup [])), (21, (.tup [])), (22, (.tup [])), (23, (.tup [])), (24, (.tup [])), (25, (.tup [])), (26, (.tup [])), (27, (.tup [])), (28, (.tup [])), (29, (.tup [])), (30, (.tup [])), (31, (.tup []))], spread .val 32 0 [(1, (.ptr 0 0)), (2, (.ptr 1 0)), (3, (.ptr 3 0)), (5, (.map 2)), (7, (.fn 159 [(4, 0)]))], spread none 32 0 [], []⟩ sg)
noncomputable def B_tree_CheckPat_r0 (R : Orc) (t0 t6 : DV) (I : List SObj → Option DV) (x : DV) (sg : List SObj) : Option DV := evP cfg R fl_tree_CheckPat (kr I (X_tree_CheckPat_r0 R t0 t6)) [] rcode_tree_CheckPat_r0 (mst 32 [(8, x)] [(2, (.ptr 1 0)), (3, (.ptr 3 0))] [] sg)
noncomputable def I_tree_CheckPat_r0 (R : Orc) (t0 t6 : DV) : List DV → List SObj → Option DV := foldIt (fun x I sg => B_tree_CheckPat_r0 R t0 t6 I x sg) (X_tree_CheckPat_r0 R t0 t6 .normal)
noncomputable def P_tree_CheckPat_6 (R : Orc) (t0 t6 : DV) (I : List SObj → Option DV) (b4 : DV) (sg : List SObj) : Option DV := evP cfg R fl_tree_CheckPat (kr I (X_tree_CheckPat_r0 R t0 t6)) [true, false, true] rcode_tree_CheckPat_r0 (mst 32 [] [(3, (.ptr 3 0)), (4, (.loc 4 0))] [(4, some (bxs b4 0 7))] sg)
theorem eq_tree_CheckPat (R : Orc) (x0 : DV) : P_tree_CheckPat R x0 =
 (og (isAggN 7 x0) <| P_tree_CheckPat_r0 R x0 (ag7 x0) [SObj.box [((proj 0 x0), .val), ((proj 1 x0), .val), ((proj 2 x0), .val), ((proj 3 x0), .val), ((proj 4 x0), .val), ((proj 5 x0), .val), ((proj 6 x0), .val)], SObj.box [((.int .i64 0), .val)], .map true [], SObj.box [(.undef, (.map 2))], SObj.box [((proj 0 x0), .val), ((proj 1 x0), .val), ((proj 2 x0), .val), ((proj 3 x0), .val), ((proj 4 x0), .val), ((proj 5 x0), .val), ((proj 6 x0), .val)]]) := evP_of [6] (by kernel_rfl)
theorem eq_tree_CheckPat_r0 (R : Orc) (t0 t6 : DV) (sg : List SObj) : P_tree_CheckPat_r0 R t0 t6 sg =
 ob (sgBox sg 4) fun cs => ob (allDat cs) fun cd => ob (flatD 7 6 cd) fun ds => I_tree_CheckPat_r0 R t0 t6 ds (sg.set 4 (.arr 1 [])) := (rangeP2 (t := 7) (f := 159) (i := 4) (q := 8) (it := flatD 7 6) (by kernel_rfl) (by kernel_rfl) (by kernel_rfl) (by kernel_rfl)).trans (by kernel_rfl)
theorem I_tree_CheckPat_r0_nil (R : Orc) (t0 t6 : DV) (sg : List SObj) : I_tree_CheckPat_r0 R t0 t6 [] sg = X_tree_CheckPat_r0 R t0 t6 .normal sg := rfl
theorem I_tree_CheckPat_r0_cons (R : Orc) (t0 t6 x : DV) (ds : List DV) (sg : List SObj) : I_tree_CheckPat_r0 R t0 t6 (x :: ds) sg = B_tree_CheckPat_r0 R t0 t6 (I_tree_CheckPat_r0 R t0 t6 ds) x sg := rfl
theorem eq_B_tree_CheckPat_r0 (R : Orc) (t0 t6 : DV) (I : List SObj → Option DV) (x : DV) (sg : List SObj) : B_tree_CheckPat_r0 R t0 t6 I x sg = (og (isAggN 7 x) <| ob (R.p F_tree_onePat [(ag7 x)]) fun d1 => ob (dUn .not d1) fun d2 => ogd d2 (ob (sgBox sg 1) fun c3 => ob (c3[0]?) fun u4 => X_tree_CheckPat_r0 R t0 t6 .ret (sg.set 1 (SObj.box (c3.set 0 ((.int .i64 1), .val))))) (ob (dBin .eql (proj 0 x) (.int .i64 2)) fun d5 => ogd d5 (ob (sgBox sg 3) fun c6 => ob (cellMap c6 0) fun i7 => og (isKey true (proj 3 x) && true) <| ob (sgMap sg i7) fun m8 =>
 og (m8.1 == true) <| ob (dBin .gtr ((mGet m8.2 (proj 3 x)).getD (.int .i64 0)) (.int .i64 0)) fun d9 => oif d9 (ob (sgBox sg 1) fun c10 => ob (c10[0]?) fun u11 => X_tree_CheckPat_r0 R t0 t6 .ret (sg.set 1 (SObj.box (c10.set 0 ((.int .i64 1), .val))))) (P_tree_CheckPat_6 R t0 t6 I x sg)) (P_tree_CheckPat_6 R t0 t6 I x sg) none) none) := evP_of [6] (by kernel_rfl)
theorem eq_X_tree_CheckPat_r0_normal (R : Orc) (t0 t6 : DV) (sg : List SObj) : X_tree_CheckPat_r0 R t0 t6 .normal sg =
 (ob (sgBox sg 1) fun c1 => ob (c1[0]?) fun u2 => ret1 (ob (sgBox (sg.set 1 (SObj.box (c1.set 0 ((.int .i64 0), .val)))) 1) fun c => oneCell (sg.set 1 (SObj.box (c1.set 0 ((.int .i64 0), .val)))) c)) := konP_of [6] (by kernel_rfl)
theorem eq_X_tree_CheckPat_r0_ret (R : Orc) (t0 t6 : DV) (sg : List SObj) : X_tree_CheckPat_r0 R t0 t6 .ret sg = (ret1 (ob (sgBox sg 1) fun c => oneCell sg c)) := konP_of [6] (by kernel_rfl)
theorem eq_tree_CheckPat_6 (R : Orc) (t0 t6 : DV) (I : List SObj → Option DV) (b4 : DV) (sg : List SObj) : P_tree_CheckPat_6 R t0 t6 I b4 sg = (ob (dBin .eql (proj 0 b4) (.int .i64 2)) fun d1 => oif d1 (ob (sgBox sg 3) fun c2 => ob (cellMap c2 0) fun i3 => og (isKey true (proj 3 b4) && true) <| ob (sgMap sg i3) fun m4 => og (m4.1 == true) <| ob (dBin .add ((mGet m4.2 (proj 3 b4)).getD (.int .i64 0)) (.int .i64 1)) fun d5 => og (isKey true (proj 3 b4) && true && true) <| ob (sgMap sg i3) fun m6 => og (m6.1 == true) <| I (sg.set i3 (.map true (mSet m6.2 (proj 3 b4) d5)))) (I sg)) := evP_of [6] (by kernel_rfl)
theorem call_tree_CheckPat (x0 : DV) {d : DV} (h : P_tree_CheckPat (run cfg) x0 = some d) : (run cfg).p F_tree_CheckPat [x0] = some d := callE Tryz.func129 (by kernel_rfl) (by kernel_rfl) (by kernel_rfl) h
noncomputable def P_term_none (R : Orc) (x0 : DV) : Option DV := eP Tryz.f132 fl_term_none R [] (initSt Tryz.f132 [(x0, .val)] [])
theorem eq_term_none (R : Orc) (x0 : DV) : P_term_none R x0 =
 (og (isAggN 3 x0) <| ob (dBin .eql (proj 0 x0) (.int .i64 0)) fun d1 => ogd d1 (ob (dBin .eql (proj 1 x0) (.int .i64 0)) fun d2 => ogd d2 (ob (dLen (proj 2 x0)) fun d3 => ob (dBin .eql d3 (.int .i64 0)) fun d4 => some d4) (some (.bool false)) none) (some (.bool false)) none) := evP_of [] (by kernel_rfl)
theorem call_term_none (x0 : DV) {d : DV} (h : P_term_none (run cfg) x0 = some d) : (run cfg).p F_term_none [x0] = some d := callE Tryz.func132 (by kernel_rfl) (by kernel_rfl) (by kernel_rfl) h
noncomputable def code_slices_IndexFunc__api_Bind_api_Bind : Code := Tryz.f133.body.getD .skip
noncomputable def P_slices_IndexFunc__api_Bind_api_Bind (R : Orc) (x0i x0o x0n x1_0 : Nat) (sg : List SObj) : Option (List DV × List SObj) := evP cfg R fl_slices_IndexFunc__api_Bind_api_Bind (retR cfg.P Tryz.f133 sig_slices_IndexFunc__api_Bind_api_Bind) [] code_slices_IndexFunc__api_Bind_api_Bind (initSt Tryz.f133 [(.undef, (.arr x0i 4 x0o x0n)), (.undef, (.fn 117 [(x1_0, 0)]))] sg)
noncomputable def P_slices_IndexFunc__api_Bind_api_Bind_2h (R : Orc) (t0r0 t0r2 t0r3 t1c0 : Nat) (t7 t8 : DV) (sg : List SObj) : Option (List DV × List SObj) := headP cfg R fl_slices_IndexFunc__api_Bind_api_Bind (retR cfg.P Tryz.f133 sig_slices_IndexFunc__api_Bind_api_Bind) [true, false, true, false] code_slices_IndexFunc__api_Bind_api_Bind (mst 19 [(7, t7), (8, t8)] [(0, (.arr t0r0 4 t0r2 t0r3)), (1, (.fn 117 [(t1c0, 0)]))] [] sg)
theorem eq_slices_IndexFunc__api_Bind_api_Bind (R : Orc) (x0i x0o x0n x1_0 : Nat) (sg : List SObj) : P_slices_IndexFunc__api_Bind_api_Bind R x0i x0o x0n x1_0 sg =
 (P_slices_IndexFunc__api_Bind_api_Bind_2h R x0i x0o x0n x1_0 (.int .i64 x0n) (.int .i64 0) sg) := evP_of [] (by kernel_rfl)
theorem eq_slices_IndexFunc__api_Bind_api_Bind_2h (R : Orc) (t0r0 t0r2 t0r3 t1c0 : Nat) (t7 t8 : DV) (sg : List SObj) : P_slices_IndexFunc__api_Bind_api_Bind_2h R t0r0 t0r2 t0r3 t1c0 t7 t8 sg =
 (ob (dBin .lss t8 t7) fun d1 => oif d1 (ob (arrIdx t0r2 t0r3 t8) fun n2 => ob (sgArr sg t0r0) fun r3 => ob (r3.2[n2]?) fun d4 => og (r3.1 == 4) <| ob (R.r F_term_outside_1 [((.agg [(proj 0 d4), (proj 1 d4), (proj 2 d4), (proj 3 d4)]), .val), (.undef, (.ptr t1c0 0))] sg) fun q5 => oif (q5.1.getD 0 .undef) (some ([t8], q5.2)) (ob (dBin .add t8 (.int .i64 1)) fun d6 => P_slices_IndexFunc__api_Bind_api_Bind_2h R t0r0 t0r2 t0r3 t1c0 t7 d6 q5.2)) (some ([(.int .i64 (-1))], sg))) := headP_of [] (by kernel_rfl)
theorem fix_slices_IndexFunc__api_Bind_api_Bind (x0i x0o x0n x1_0 : Nat) (sg : List SObj) : (run cfg).r F_slices_IndexFunc__api_Bind_api_Bind [(.undef, (.arr x0i 4 x0o x0n)), (.undef, (.fn 117 [(x1_0, 0)]))] sg = P_slices_IndexFunc__api_Bind_api_Bind (run cfg) x0i x0o x0n x1_0 sg :=
 (fix_raw (C := cfg) (f := F_slices_IndexFunc__api_Bind_api_Bind) (s := sig_slices_IndexFunc__api_Bind_api_Bind) (fn := Tryz.f133) (c := code_slices_IndexFunc__api_Bind_api_Bind) (by kernel_rfl) Tryz.func133 (by kernel_rfl)).trans (by kernel_rfl)
theorem call_slices_IndexFunc__api_Bind_api_Bind (x0i x0o x0n x1_0 : Nat) (sg : List SObj) {q : List DV × List SObj} (h : P_slices_IndexFunc__api_Bind_api_Bind (run cfg) x0i x0o x0n x1_0 sg = some q) : (run cfg).r F_slices_IndexFunc__api_Bind_api_Bind [(.undef, (.arr x0i 4 x0o x0n)), (.undef, (.fn 117 [(x1_0, 0)]))] sg = some q := (fix_slices_IndexFunc__api_Bind_api_Bind x0i x0o x0n x1_0 sg).trans h
noncomputable def P_slices_Index__int_int (R : Orc) (x0 x1 : DV) : Option DV := eP Tryz.f134 fl_slices_Index__int_int R [] (initSt Tryz.f134 [(x0, .val), (x1, .val)] [])
noncomputable def P_slices_Index__int_int_2h (R : Orc) (t0 t1 t7 t8 : DV) : Option DV := hP Tryz.f134 fl_slices_Index__int_int R [true, false, true, false] (mst 19 [(0, t0), (1, t1), (7, t7), (8, t8)] [] [] [])
theorem eq_slices_Index__int_int (R : Orc) (x0 x1 : DV) : P_slices_Index__int_int R x0 x1 =
 (ob (dLen x0) fun d1 => P_slices_Index__int_int_2h R x0 x1 d1 (.int .i64 0)) := evP_of [] (by kernel_rfl)
theorem eq_slices_Index__int_int_2h (R : Orc) (t0 t1 t7 t8 : DV) : P_slices_Index__int_int_2h R t0 t1 t7 t8 =
 (ob (dBin .lss t8 t7) fun d1 => oif d1 (ob (dIdx 1 t0 t8) fun d2 => og (isLeaf d2) <| ob (dBin .eql t1 d2) fun d3 => oif d3 (some t8) (ob (dBin .add t8 (.int .i64 1)) fun d4 => P_slices_Index__int_int_2h R t0 t1 t7 d4)) (some (.int .i64 (-1)))) := headP_of [] (by kernel_rfl)
theorem call_slices_Index__int_int (x0 x1 : DV) {d : DV} (h : P_slices_Index__int_int (run cfg) x0 x1 = some d) : (run cfg).p F_slices_Index__int_int [x0, x1] = some d := callE Tryz.func134 (by kernel_rfl) (by kernel_rfl) (by kernel_rfl) h
noncomputable def code_term_patNames : Code := Tryz.f135.body.getD .skip
noncomputable def P_term_patNames (R : Orc) (x0 x1 : DV) (sg : List SObj) : Option (List DV × List SObj) := evP cfg R fl_term_patNames (retR cfg.P Tryz.f135 sig_term_patNames) [] code_term_patNames (initSt Tryz.f135 [(x0, .val), (x1, .own)] sg)
noncomputable def P_term_patNames_4h (R : Orc) (t1 t16 t17 t18 : DV) (sg : List SObj) : Option (List DV × List SObj) := headP cfg R fl_term_patNames (retR cfg.P Tryz.f135 sig_term_patNames) [true, true, false, true, false] code_term_patNames (mst 27 [(1, t1), (16, t16), (17, t17), (18, t18)] [(1, .own)] [] sg)
theorem eq_term_patNames (R : Orc) (x0 x1 : DV) (sg : List SObj) : P_term_patNames R x0 x1 sg =
 (og (isAggN 7 x0) <| ob (dBin .eql (proj 0 x0) (.int .i64 2)) fun d1 => oif d1 (og (isCell (proj 3 x0)) <| ob (dApp 1 x1 (.list 1 [(proj 3 x0)])) fun d2 => ob (dLen (proj 6 x0)) fun d3 => P_term_patNames_4h R d2 (proj 6 x0) d3 (.int .i64 0) sg) (ob (dLen (proj 6 x0)) fun d4 => P_term_patNames_4h R x1 (proj 6 x0) d4 (.int .i64 0) sg)) := evP_of [] (by kernel_rfl)
theorem eq_term_patNames_4h (R : Orc) (t1 t16 t17 t18 : DV) (sg : List SObj) : P_term_patNames_4h R t1 t16 t17 t18 sg =
 (ob (dBin .lss t18 t17) fun d1 => oif d1 (ob (dIdx 7 t16 t18) fun d2 => ob (R.r F_term_patNames [((ag7 d2), .val), (t1, .own)] sg) fun q3 => ob (dBin .add t18 (.int .i64 1)) fun d4 => P_term_patNames_4h R (q3.1.getD 0 .undef) t16 t17 d4 q3.2) (some ([t1], sg))) := headP_of [] (by kernel_rfl)
theorem fix_term_patNames (x0 x1 : DV) (sg : List SObj) : (run cfg).r F_term_patNames [(x0, .val), (x1, .own)] sg = P_term_patNames (run cfg) x0 x1 sg :=
 (fix_raw (C := cfg) (f := F_term_patNames) (s := sig_term_patNames) (fn := Tryz.f135) (c := code_term_patNames) (by kernel_rfl) Tryz.func135 (by kernel_rfl)).trans (by kernel_rfl)
theorem call_term_patNames (x0 x1 : DV) (sg : List SObj) {q : List DV × List SObj} (h : P_term_patNames (run cfg) x0 x1 sg = some q) : (run cfg).r F_term_patNames [(x0, .val), (x1, .own)] sg = some q := (fix_term_patNames x0 x1 sg).trans h
noncomputable def P_slices_Index__string_string (R : Orc) (x0 x1 : DV) : Option DV := eP Tryz.f147 fl_slices_Index__string_string R [] (initSt Tryz.f147 [(x0, .val), (x1, .val)] [])
noncomputable def P_slices_Index__string_string_2h (R : Orc) (t0 t1 t7 t8 : DV) : Option DV := hP Tryz.f147 fl_slices_Index__string_string R [true, false, true, false] (mst 19 [(0, t0), (1, t1), (7, t7), (8, t8)] [] [] [])
theorem eq_slices_Index__string_string (R : Orc) (x0 x1 : DV) : P_slices_Index__string_string R x0 x1 =
 (ob (dLen x0) fun d1 => P_slices_Index__string_string_2h R x0 x1 d1 (.int .i64 0)) := evP_of [] (by kernel_rfl)
theorem eq_slices_Index__string_string_2h (R : Orc) (t0 t1 t7 t8 : DV) : P_slices_Index__string_string_2h R t0 t1 t7 t8 =
 (ob (dBin .lss t8 t7) fun d1 => oif d1 (ob (dIdx 1 t0 t8) fun d2 => og (isLeaf d2) <| ob (dBin .eql t1 d2) fun d3 => oif d3 (some t8) (ob (dBin .add t8 (.int .i64 1)) fun d4 => P_slices_Index__string_string_2h R t0 t1 t7 d4)) (some (.int .i64 (-1)))) := headP_of [] (by kernel_rfl)
theorem call_slices_Index__string_string (x0 x1 : DV) {d : DV} (h : P_slices_Index__string_string (run cfg) x0 x1 = some d) : (run cfg).p F_slices_Index__string_string [x0, x1] = some d := callE Tryz.func147 (by kernel_rfl) (by kernel_rfl) (by kernel_rfl) h
noncomputable def P_r05_SamePat (R : Orc) (x0 x1 : DV) : Option DV := eP Tryz.f148 fl_r05_SamePat R [] (initSt Tryz.f148 [(x0, .val), (x1, .val)] [])
noncomputable def P_r05_SamePat_4h (R : Orc) (t5 b2 b3 : DV) : Option DV := hP Tryz.f148 fl_r05_SamePat R [true, true, false, true, false] (mst 60 [(5, t5)] [(2, (.loc 2 0)), (3, (.loc 3 0))] [(2, some (bxs b2 0 7)), (3, some (bxs b3 0 7))] [])
set_option maxRecDepth 100000 in
theorem eq_r05_SamePat (R : Orc) (x0 x1 : DV) : P_r05_SamePat R x0 x1 =
 (og (isAggN 7 x0) <| og (isAggN 7 x1) <| ob (dBin .neq (proj 0 x0) (proj 0 x1)) fun d1 => ogd d1 (some (.bool false)) (ob (dBin .neq (proj 3 x0) (proj 3 x1)) fun d2 => ogd d2 (some (.bool false)) (ob (dBin .neq (proj 4 x0) (proj 4 x1)) fun d3 => ogd d3 (some (.bool false)) (ob (dBin .neq (proj 5 x0) (proj 5 x1)) fun d4 => ogd d4 (some (.bool false)) (ob (dLen (proj 6 x0)) fun d5 => ob (dLen (proj 6 x1)) fun d6 => ob (dBin .neq d5 d6) fun d7 => oif d7 (some (.bool false)) (P_r05_SamePat_4h R (.int .i64 0) x0 x1)) none) none) none) none) := evP_of [] (by kernel_rfl)
theorem eq_r05_SamePat_4h (R : Orc) (t5 b2 b3 : DV) : P_r05_SamePat_4h R t5 b2 b3 =
 (ob (dLen (proj 6 b2)) fun d1 => ob (dBin .lss t5 d1) fun d2 => oif d2 (ob (dIdx 7 (proj 6 b2) t5) fun d3 => ob (dIdx 7 (proj 6 b3) t5) fun d4 => ob (R.p F_r05_SamePat [(ag7 d3), (ag7 d4)]) fun d5 => ob (dUn .not d5) fun d6 => oif d6 (some (.bool false)) (ob (dBin .add t5 (.int .i64 1)) fun d7 => P_r05_SamePat_4h R d7 b2 b3)) (some (.bool true))) := headP_of [] (by kernel_rfl)
theorem call_r05_SamePat (x0 x1 : DV) {d : DV} (h : P_r05_SamePat (run cfg) x0 x1 = some d) : (run cfg).p F_r05_SamePat [x0, x1] = some d := callE Tryz.func148 (by kernel_rfl) (by kernel_rfl) (by kernel_rfl) h
noncomputable def P_tree_onePat (R : Orc) (x0 : DV) : Option DV := eP Tryz.f150 fl_tree_onePat R [] (initSt Tryz.f150 [(x0, .val)] [])
noncomputable def P_tree_onePat_24 (R : Orc) (t4 b1 b3_0 b3_1 b3_2 b3_3 b3_4 b3_5 b3_6 : DV) : Option DV := eP Tryz.f150 fl_tree_onePat R [true, true, true] (mst 83 [(4, t4)] [(1, (.loc 1 0)), (3, (.loc 3 0))] [(1, some (bxs b1 0 7)), (3, some [(b3_0, .val), (b3_1, .val), (b3_2, .val), (b3_3, .val), (b3_4, .val), (b3_5, .val), (b3_6, .val)])] [])
set_option maxRecDepth 100000 in
theorem eq_tree_onePat (R : Orc) (x0 : DV) : P_tree_onePat R x0 =
 (og (isAggN 7 x0) <| og (isCell (proj 0 x0)) <| og (isCell (proj 6 x0)) <| ob (dBin .eql (proj 0 x0) (.int .i64 1)) fun d1 => oif d1 (P_tree_onePat_24 R (.int .i64 0) x0 (proj 0 x0) (proj 1 x0) (proj 2 x0) (.str ⟨#[]⟩) (.int .i64 0) (.str ⟨#[]⟩) (proj 6 x0)) (ob (dBin .eql (proj 0 x0) (.int .i64 6)) fun d2 => oif d2 (P_tree_onePat_24 R (.int .i64 0) x0 (proj 0 x0) (proj 1 x0) (proj 2 x0) (.str ⟨#[]⟩) (.int .i64 0) (.str ⟨#[]⟩) (proj 6 x0)) (ob (dBin .eql (proj 0 x0) (.int .i64 8)) fun d3 => oif d3 (P_tree_onePat_24 R (.int .i64 0) x0 (proj 0 x0) (proj 1 x0) (proj 2 x0) (.str ⟨#[]⟩) (.int .i64 0) (.str ⟨#[]⟩) (proj 6 x0)) (ob (dBin .eql (proj 0 x0) (.int .i64 2)) fun d4 => oif d4 (og (isCell (proj 3 x0)) <| ob (R.p F_word_Name [(proj 3 x0)]) fun d5 => ob (dUn .not d5) fun d6 => oif d6 (some (.bool false)) (P_tree_onePat_24 R (.int .i64 0) x0 (proj 0 x0) (proj 1 x0) (proj 2 x0) (proj 3 x0) (.int .i64 0) (.str ⟨#[]⟩) (proj 6 x0))) (ob (dBin .eql (proj 0 x0) (.int .i64 3)) fun d7 => oif d7 (og (isCell (proj 4 x0)) <| P_tree_onePat_24 R (.int .i64 0) x0 (proj 0 x0) (proj 1 x0) (proj 2 x0) (.str ⟨#[]⟩) (proj 4 x0) (.str ⟨#[]⟩) (proj 6 x0)) (ob (dBin .eql (proj 0 x0) (.int .i64 4)) fun d8 =>
 oif d8 (og (isCell (proj 4 x0)) <| ob (dBin .neq (proj 4 x0) (.int .i64 0)) fun d9 => ogd d9 (ob (dBin .neq (proj 4 x0) (.int .i64 1)) fun d10 => oif d10 (some (.bool false)) (P_tree_onePat_24 R (.int .i64 0) x0 (proj 0 x0) (proj 1 x0) (proj 2 x0) (.str ⟨#[]⟩) (proj 4 x0) (.str ⟨#[]⟩) (proj 6 x0))) (P_tree_onePat_24 R (.int .i64 0) x0 (proj 0 x0) (proj 1 x0) (proj 2 x0) (.str ⟨#[]⟩) (proj 4 x0) (.str ⟨#[]⟩) (proj 6 x0)) none) (ob (dBin .eql (proj 0 x0) (.int .i64 5)) fun d11 => oif d11 (og (isCell (proj 5 x0)) <| ob (dLenS (proj 5 x0)) fun d12 => ob (dBin .gtr d12 (.int .i64 200)) fun d13 => oif d13 (some (.bool false)) (P_tree_onePat_24 R (.int .i64 0) x0 (proj 0 x0) (proj 1 x0) (proj 2 x0) (.str ⟨#[]⟩) (.int .i64 0) (proj 5 x0) (proj 6 x0))) (ob (dBin .eql (proj 0 x0) (.int .i64 7)) fun d14 => oif d14 (P_tree_onePat_24 R (.int .i64 2) x0 (proj 0 x0) (proj 1 x0) (proj 2 x0) (.str ⟨#[]⟩) (.int .i64 0) (.str ⟨#[]⟩) (proj 6 x0)) (ob (dBin .eql (proj 0 x0) (.int .i64 9)) fun d15 => oif d15 (P_tree_onePat_24 R (.int .i64 2) x0 (proj 0 x0) (proj 1 x0) (proj 2 x0) (.str ⟨#[]⟩) (.int .i64 0) (.str ⟨#[]⟩) (proj 6 x0)) (some (.bool false))))))))))) := evP_of [24] (by kernel_rfl)
set_option maxRecDepth 100000 in
theorem eq_tree_onePat_24 (R : Orc) (t4 b1 b3_0 b3_1 b3_2 b3_3 b3_4 b3_5 b3_6 : DV) : P_tree_onePat_24 R t4 b1 b3_0 b3_1 b3_2 b3_3 b3_4 b3_5 b3_6 =
 (ob (dLen (proj 6 b1)) fun d1 => ob (dBin .eql d1 t4) fun d2 => ogd d2 (ob (dBin .eql b3_3 (proj 3 b1)) fun d3 => ogd d3 (ob (dBin .eql b3_4 (proj 4 b1)) fun d4 => ogd d4 (ob (dBin .eql b3_5 (proj 5 b1)) fun d5 => some d5) (some (.bool false)) none) (some (.bool false)) none) (some (.bool false)) none) := evP_of [24] (by kernel_rfl)
theorem call_tree_onePat (x0 : DV) {d : DV} (h : P_tree_onePat (run cfg) x0 = some d) : (run cfg).p F_tree_onePat [x0] = some d := callE Tryz.func150 (by kernel_rfl) (by kernel_rfl) (by kernel_rfl) h
end Go.Su

/-
 All equations.
-/
namespace Go.Su
end Go.Su

/-
 The functions' specs that this claim needs.
-/
namespace Go.Su
set_option linter.unusedVariables false
set_option linter.unusedSimpArgs false
theorem big {n : Nat} (h : n ≤ lim) : n < 4294967297 := by unfold lim at h; omega
@[simp] theorem dEqA_two (a b c d : Int) (k : IntKind) : dEqA [.int, .int] (.agg [.int k a, .int k b]) (.agg [.int k c, .int k d]) = some (decide (a = c) && decide (b = d)) := by
  simp only [dEqA, dEqLeaves, dEqK, if_true, ob_some']
  by_cases h : a = c <;> by_cases h' : b = d <;> simp [h, h']
theorem sp_slices_Index (l : List Int) (hl : l.length ≤ lim) (n : Int) : ∃ k : Int, (run cfg).p F_slices_Index__int_int [encInts l, .int .i64 n] = some (.int .i64 k) ∧ (0 ≤ k ↔ n ∈ l) := by
 have hb := big hl
 have loop : ∀ (m i : Nat), i + m = l.length → ∃ k : Int, P_slices_Index__int_int_2h (run cfg) (encInts l) (.int .i64 n) (.int .i64 l.length) (.int .i64 i) = some (.int .i64 k) ∧ (0 ≤ k ↔ n ∈ l.drop i) := by
  intro m
  induction m with
  | zero =>
    intro i hi
    have : ¬ i < l.length := by omega
    rw [eq_slices_Index__int_int_2h]
    exact ⟨-1, by simp [this], by simp [List.drop_of_length_le (show l.length ≤ i by omega)]⟩
  | succ m ihm =>
    intro i hi
    have h : i < l.length := by omega
    rw [eq_slices_Index__int_int_2h, List.drop_eq_getElem_cons h]
    by_cases e : n = l[i]
    ·exact ⟨i, by simp [h, dIdx_ints h, e], ⟨fun _ => by rw [e]; exact List.mem_cons_self .., fun _ => by omega⟩⟩
    ·obtain ⟨k, h1, h2⟩ := ihm (i + 1) (by omega)
     push_cast at h1
     refine ⟨k, by simp [h, dIdx_ints h, e, dAdd1 (show i < 9223372036854775807 by omega), h1], ?_⟩
     rw [h2, List.mem_cons]
     simp [e]
 obtain ⟨k, h1, h2⟩ := loop l.length 0 (by omega)
 refine ⟨k, call_slices_Index__int_int _ _ ?_, by simpa using h2⟩
 rw [eq_slices_Index__int_int]
 simpa using h1
theorem sp_slices_Contains (l : List Int) (hl : l.length ≤ lim) (n : Int) : (run cfg).p F_slices_Contains__int_int [encInts l, .int .i64 n] = some (.bool (decide (n ∈ l))) := by
 refine call_slices_Contains__int_int _ _ ?_
 rw [eq_slices_Contains__int_int]
 obtain ⟨k, h1, h2⟩ := sp_slices_Index l hl n
 simp [h1, h2]
@[simp] theorem encBnd0 (e : Int × Ty) : proj 0 (encBnd e) = .int .i64 e.1 := rfl
@[simp] theorem encBnd1 (e : Int × Ty) : proj 1 (encBnd e) = .int .i64 e.2.kind := rfl
@[simp] theorem encBnd2 (e : Int × Ty) : proj 2 (encBnd e) = .int .i64 e.2.n := rfl
@[simp] theorem encBnd3 (e : Int × Ty) : proj 3 (encBnd e) = .list 3 (e.2.kids.map Ty.enc) := rfl
@[simp] theorem isAggN_Bnd (e : Int × Ty) : isAggN 4 (encBnd e) = true := rfl
theorem Nm.agg (n : ByteArray) (t : Ty) (vs : List Int) : DV.agg [.str n, .int .i64 t.kind, .int .i64 t.n, .list 3 (t.kids.map Ty.enc), encInts vs] = Nm.enc ⟨n, t, vs⟩ := rfl
@[simp] theorem isAggN_R3 (r : R3) : isAggN 15 r.enc = true := rfl
end Go.Su

/-
 What the program's functions on terms give: types put for variables.
-/
namespace Go.Su
set_option linter.unusedVariables false
set_option linter.unusedSimpArgs false
theorem encBnd_mk (b : Int × Ty) : DV.agg [proj 0 (encBnd b), proj 1 (encBnd b), proj 2 (encBnd b), proj 3 (encBnd b)] = encBnd b := rfl
theorem encBnd_p0 (b : Int × Ty) : proj 0 (encBnd b) = .int .i64 b.1 := rfl
def outSg (x : List (DV × Meta)) (l : Bds) : List SObj := [.box x, .arr 4 (l.map encBnd)]
theorem sp_out1 (x : List (DV × Meta)) (vs : List Int) (hx : cellDat x 10 = some (encInts vs)) (hv : vs.length ≤ lim) (b : Int × Ty) (cur : Bds) :
 (run cfg).r F_term_outside_1 [(encBnd b, .val), (.undef, .ptr 0 0)] (outSg x cur) = some ([.bool (decide (b.1 ∈ vs))], outSg x cur) := by
 refine call_term_outside_1 _ _ _ ?_
 rw [eq_term_outside_1]
 have e0 : sgBox (outSg x cur) 0 = some x := rfl
 have e1 : isAggN 4 (encBnd b) = true := rfl
 simp only [e0, e1, og_true', ob_some', hx, encBnd_p0, sp_slices_Contains vs hv]
theorem arr_nat {j n : Nat} (h : j < n) : arrIdx 0 n (.int .i64 (j : Int)) = some j := by
 show (if (0 : Int) ≤ (j : Int) ∧ (j : Int) < (n : Int) then some (0 + (j : Int).toNat) else none) = some j
 rw [if_pos ⟨by omega, by omega⟩]
 simp
theorem sp_indexFunc (x : List (DV × Meta)) (vs : List Int) (hx : cellDat x 10 = some (encInts vs)) (hv : vs.length ≤ lim) (l : Bds) (hl : l.length ≤ lim) :
 ∃ j : Nat, (∀ i (h : i < l.length), i < j → l[i].1 ∉ vs) ∧ ((j = l.length ∧ (run cfg).r F_slices_IndexFunc__api_Bind_api_Bind [(.undef, .arr 1 4 0 l.length), (.undef, .fn F_term_outside_1 [(0, 0)])] (outSg x l) = some ([.int .i64 (-1)], outSg x l)) ∨
   (j < l.length ∧ (∀ h : j < l.length, l[j].1 ∈ vs) ∧ (run cfg).r F_slices_IndexFunc__api_Bind_api_Bind [(.undef, .arr 1 4 0 l.length), (.undef, .fn F_term_outside_1 [(0, 0)])] (outSg x l) = some ([.int .i64 (j : Int)], outSg x l))) := by
 have hb := big hl
 have loop : ∀ (n i : Nat), i + n = l.length → (∀ a (h : a < l.length), a < i → l[a].1 ∉ vs) → ∃ j : Nat, (∀ a (h : a < l.length), a < j → l[a].1 ∉ vs) ∧
  ((j = l.length ∧ P_slices_IndexFunc__api_Bind_api_Bind_2h (run cfg) 1 0 l.length 0 (.int .i64 (l.length : Int)) (.int .i64 (i : Int)) (outSg x l) = some ([.int .i64 (-1)], outSg x l)) ∨
  (j < l.length ∧ (∀ h : j < l.length, l[j].1 ∈ vs) ∧ P_slices_IndexFunc__api_Bind_api_Bind_2h (run cfg) 1 0 l.length 0 (.int .i64 (l.length : Int)) (.int .i64 (i : Int)) (outSg x l) = some ([.int .i64 (j : Int)], outSg x l))) := by
  intro n
  induction n with
  | zero =>
    intro i hi ha
    have e : i = l.length := by omega
    subst e
    refine ⟨l.length, ha, .inl ⟨rfl, ?_⟩⟩
    rw [eq_slices_IndexFunc__api_Bind_api_Bind_2h]
    simp only [dBin_lss, Int.lt_irrefl, decide_false, ob_some', oif_bool, Bool.false_eq_true, if_false]
  | succ n ih =>
    intro i hi ha
    have h : i < l.length := by omega
    have s1 : sgArr (outSg x l) 1 = some (4, l.map encBnd) := rfl
    have g1 : (l.map encBnd)[i]? = some (encBnd l[i]) := by rw [List.getElem?_map, List.getElem?_eq_getElem h]; rfl
    have e1 : dBin .add (.int .i64 (i : Int)) (.int .i64 1) = some (.int .i64 ((i + 1 : Nat) : Int)) := dAdd1 (show i < 9223372036854775807 by omega)
    have step : ∀ Z, P_slices_IndexFunc__api_Bind_api_Bind_2h (run cfg) 1 0 l.length 0 (.int .i64 (l.length : Int)) (.int .i64 (i : Int)) (outSg x l) = Z ↔ (if l[i].1 ∈ vs then some ([.int .i64 (i : Int)], outSg x l) else P_slices_IndexFunc__api_Bind_api_Bind_2h (run cfg) 1 0 l.length 0 (.int .i64 (l.length : Int)) (.int .i64 ((i + 1 : Nat) : Int)) (outSg x l)) = Z := by
     intro Z
     rw [eq_slices_IndexFunc__api_Bind_api_Bind_2h (run cfg) 1 0 l.length 0 (.int .i64 (l.length : Int)) (.int .i64 (i : Int))]
     simp only [dBin_lss, Int.ofNat_lt, h, decide_true, ob_some', oif_bool, if_true, arr_nat h, s1, g1, BEq.rfl, og_true', encBnd_mk, sp_out1 x vs hx hv, List.getD_cons_zero, e1, decide_eq_true_eq]
    by_cases hm : l[i].1 ∈ vs
    ·refine ⟨i, ha, .inr ⟨h, fun _ => hm, ?_⟩⟩
     rw [step, if_pos hm]
    ·obtain ⟨j, h1, h2⟩ := ih (i + 1) (by omega) fun a h ha' => by
      by_cases e : a = i
      ·subst e; exact hm
      ·exact ha a h (by omega)
     refine ⟨j, h1, ?_⟩
     simp only [step, if_neg hm]
     exact h2
 obtain ⟨j, h1, h2⟩ := loop l.length 0 (by omega) (fun a h ha => by omega)
 refine ⟨j, h1, ?_⟩
 have c : ∀ {q : List DV × List SObj}, P_slices_IndexFunc__api_Bind_api_Bind_2h (run cfg) 1 0 l.length 0 (.int .i64 (l.length : Int)) (.int .i64 0) (outSg x l) = some q → (run cfg).r F_slices_IndexFunc__api_Bind_api_Bind [(.undef, .arr 1 4 0 l.length), (.undef, .fn F_term_outside_1 [(0, 0)])] (outSg x l) = some q := fun h => by
  refine call_slices_IndexFunc__api_Bind_api_Bind 1 0 l.length 0 _ ?_
  rw [eq_slices_IndexFunc__api_Bind_api_Bind]
  exact h
 rcases h2 with ⟨a, b⟩ | ⟨a, b, d⟩
 ·exact .inl ⟨a, c b⟩
 ·exact .inr ⟨a, b, c d⟩
theorem filter_all {l : Bds} {vs : List Int} (h : ∀ i (h : i < l.length), l[i].1 ∉ vs) : bOut l vs = l := by
 unfold bOut
 rw [List.filter_eq_self]
 intro b hb
 obtain ⟨i, hi, rfl⟩ := List.mem_iff_getElem.1 hb
 simp [h i hi]
theorem sp_deleteFunc (x : List (DV × Meta)) (vs : List Int) (hx : cellDat x 10 = some (encInts vs)) (hv : vs.length ≤ lim) (l : Bds) (hl : l.length ≤ lim) :
 ∃ sg : List SObj, (run cfg).r F_slices_DeleteFunc__api_Bind_api_Bind [(.undef, .arr 1 4 0 l.length), (.undef, .fn F_term_outside_1 [(0, 0)])] (outSg x l) = some ([encBnds (bOut l vs)], sg) := by
 have hb := big hl
 obtain ⟨j0, hj1, hj2⟩ := sp_indexFunc x vs hx hv l hl
 have sealX : ∀ (cur : Bds) (n : Nat), n ≤ cur.length → sealCell (outSg x cur) (.undef, .arr 1 4 0 n) = some (encBnds (cur.take n)) := by
  intro cur n hn
  have : sgArr (outSg x cur) 1 = some (4, cur.map encBnd) := rfl
  simp only [sealCell, this, ob_some', BEq.rfl, og_true', Nat.zero_add, List.length_map, hn, if_true, List.drop_zero, encBnds, List.map_take]
 have kept : ∀ j (h : j < l.length), bOut (l.take (j + 1)) vs = if l[j].1 ∈ vs then bOut (l.take j) vs else bOut (l.take j) vs ++ [l[j]] := by
  intro j h
  unfold bOut
  rw [List.take_succ_eq_append_getElem h, List.filter_append]
  by_cases hm : l[j].1 ∈ vs
  ·simp [hm]
  ·simp [hm]
 rcases hj2 with ⟨hj, hI⟩ | ⟨hj, hm, hI⟩
 ·-- none goes
  refine ⟨(outSg x l).set 1 (.arr 1 []), call_slices_DeleteFunc__api_Bind_api_Bind 1 0 l.length 0 _ ?_⟩
  rw [eq_slices_DeleteFunc__api_Bind_api_Bind]
  rw [filter_all fun i h => hj1 i h (by omega)]
  have e : dBin .eql (.int .i64 (-1)) (.int .i64 (-1)) = some (.bool true) := rfl
  have sl := sealX l l.length (Nat.le_refl _)
  rw [List.take_length] at sl
  simp only [hI, ob_some', List.getD_cons_zero, e, oif_bool, if_true, sl, seqO]
 ·have loop : ∀ (n j i : Nat) (cur : Bds), j + n = l.length → i < j → cur.length = l.length → cur.take i = bOut (l.take j) vs → cur.drop j = l.drop j →
   ∃ sg, P_slices_DeleteFunc__api_Bind_api_Bind_5h (run cfg) 1 0 l.length 0 (.int .i64 (i : Int)) (.int .i64 (j : Int)) (outSg x cur) = some ([encBnds (bOut l vs)], sg) := by
   intro n
   induction n with
   | zero =>
     intro j i cur hn hij hc ht hd
     have e : j = l.length := by omega
     subst e
     have b1 : bnd 0 (some (.int .i64 (i : Int))) = some i := by
      show (if (0 : Int) ≤ (i : Int) then some (i : Int).toNat else none) = some i
      rw [if_pos (by omega)]; simp
     have b2 : bnd l.length (some (.int .i64 (i : Int))) = some i := by
      show (if (0 : Int) ≤ (i : Int) then some (i : Int).toNat else none) = some i
      rw [if_pos (by omega)]; simp
     have s1 : sgArr (outSg x cur) 1 = some (4, cur.map encBnd) := rfl
     have s2 : ∀ n : Nat, (outSg x cur).set 1 (.arr 4 ((cur.map encBnd).take n)) = outSg x (cur.take n) := fun n => by rw [← List.map_take]; rfl
     have c1 : i + (l.length - i) ≤ (cur.map encBnd).length := by rw [List.length_map]; omega
     refine ⟨[.box x, .arr 1 []], ?_⟩
     rw [eq_slices_DeleteFunc__api_Bind_api_Bind_5h]
     simp only [dBin_lss, Int.lt_irrefl, decide_false, ob_some', oif_bool, Bool.false_eq_true, if_false, b1, b2, show i ≤ l.length ∧ l.length ≤ l.length from ⟨by omega, Nat.le_refl _⟩, and_self, if_true, s1, BEq.rfl, Bool.true_and, Bool.and_true, c1, decide_true, og_true', Nat.zero_le, show i ≤ l.length by omega, s2, Nat.add_zero, Nat.sub_zero, Nat.zero_add]
     have sl := sealX (cur.take i) i (by rw [List.length_take]; omega)
     rw [List.take_take, Nat.min_self, ht, List.take_length] at sl
     rw [ht]
     simp only [List.take_length, sl, seqO, ob_some']
     rfl
   | succ n ih =>
     intro j i cur hn hij hc ht hd
     have h : j < l.length := by omega
     have hcj : j < cur.length := by omega
     have e : cur[j] = l[j] := by
      have h1 : (cur.drop j)[0]? = (l.drop j)[0]? := by rw [hd]
      rw [List.getElem?_drop, List.getElem?_drop, Nat.add_zero, List.getElem?_eq_getElem hcj, List.getElem?_eq_getElem h, Option.some.injEq] at h1
      exact h1
     have s1 : sgArr (outSg x cur) 1 = some (4, cur.map encBnd) := rfl
     have g1 : (cur.map encBnd)[j]? = some (encBnd l[j]) := by rw [List.getElem?_map, List.getElem?_eq_getElem hcj, e]; rfl
     have hci : i < cur.length := by omega
     have g2 : (cur.map encBnd)[i]? = some (encBnd cur[i]) := by rw [List.getElem?_map, List.getElem?_eq_getElem hci]; rfl
     have a2 : arrIdx 0 l.length (.int .i64 (i : Int)) = some i := arr_nat (by omega)
     have e1 : dBin .add (.int .i64 (j : Int)) (.int .i64 1) = some (.int .i64 ((j + 1 : Nat) : Int)) := dAdd1 (show j < 9223372036854775807 by omega)
     have e2 : dBin .add (.int .i64 (i : Int)) (.int .i64 1) = some (.int .i64 ((i + 1 : Nat) : Int)) := dAdd1 (show i < 9223372036854775807 by omega)
     have s2 : ∀ y : Int × Ty, (outSg x cur).set 1 (.arr 4 ((cur.map encBnd).set i (encBnd y))) = outSg x (cur.set i y) := fun y => by rw [← List.map_set]; rfl
     rw [eq_slices_DeleteFunc__api_Bind_api_Bind_5h]
     simp only [dBin_lss, Int.ofNat_lt, h, decide_true, ob_some', oif_bool, if_true, arr_nat h, s1, g1, BEq.rfl, og_true', encBnd_mk, sp_out1 x vs hx hv, List.getD_cons_zero, dUn_not]
     have hdrop : ∀ (c : Bds), c.drop j = l.drop j → c.drop (j + 1) = l.drop (j + 1) := fun c h => by rw [← List.drop_drop, ← List.drop_drop (l := l), h]
     by_cases hm2 : l[j].1 ∈ vs
     ·simp only [hm2, decide_true, Bool.not_true, Bool.false_eq_true, if_false, e1]
      refine ih (j + 1) i cur (by omega) (by omega) hc ?_ (hdrop cur hd)
      rw [kept j h, if_pos hm2, ht]
     ·simp only [hm2, decide_false, Bool.not_false, if_true, a2, ob_some', s1, g2, BEq.rfl, og_true', e1, e2, s2]
      refine ih (j + 1) (i + 1) (cur.set i l[j]) (by omega) (by omega) (by simpa using hc) ?_ ?_
      ·rw [kept j h, if_neg hm2, List.take_succ_eq_append_getElem (by simpa using hci), List.take_set_of_le (Nat.le_refl _), List.getElem_set_self, ht]
      ·rw [List.drop_set, if_pos (by omega)]
       exact hdrop cur hd
  have start : l.take j0 = bOut (l.take (j0 + 1)) vs := by
   rw [kept j0 hj, if_pos (hm hj)]
   refine (filter_all fun i h => ?_).symm
   rw [List.length_take] at h
   rw [List.getElem_take]
   exact hj1 i (by omega) (by omega)
  obtain ⟨sg, hs⟩ := loop (l.length - (j0 + 1)) (j0 + 1) j0 l (by omega) (by omega) rfl start rfl
  refine ⟨sg, call_slices_DeleteFunc__api_Bind_api_Bind 1 0 l.length 0 _ ?_⟩
  rw [eq_slices_DeleteFunc__api_Bind_api_Bind]
  have e : dBin .eql (.int .i64 (j0 : Int)) (.int .i64 (-1)) = some (.bool false) := by
   rw [dBin_eql, decide_eq_false (by omega)]
  have e1 : dBin .add (.int .i64 (j0 : Int)) (.int .i64 1) = some (.int .i64 ((j0 + 1 : Nat) : Int)) := dAdd1 (show j0 < 9223372036854775807 by omega)
  simp only [hI, ob_some', List.getD_cons_zero, e, oif_bool, Bool.false_eq_true, if_false, e1]
  exact hs
theorem sp_term_outside (d : DV) (vs : List Int) (hd : isAggN 20 d = true) (h10 : proj 10 d = encInts vs) (hv : vs.length ≤ lim) (j : Int) (l : Bds) (hl : l.length ≤ lim) :
 (run cfg).p F_term_outside [d, .int .i64 j, encBnds l] = some (encBnds (if 0 < j then l else bOut l vs)) := by
 refine call_term_outside _ _ _ ?_
 rw [eq_term_outside]
 simp only [hd, og_true', dBin_gtr, ob_some', ogd_bool, decide_eq_true_eq, h10, dLen_ints, dBin_eql, oif_bool]
 by_cases hj : 0 < j
 ·simp only [hj, if_true]
 simp only [hj, if_false]
 by_cases h0 : vs = []
 ·subst h0
  simp [bOut_nil]
 ·have h0' : ¬ ((vs.length : Int) = 0) := by
   have := List.length_pos_iff.2 h0
   omega
  obtain ⟨sg, hs⟩ := sp_deleteFunc [(proj 0 d, .val), (proj 1 d, .val), (proj 2 d, .val), (proj 3 d, .val), (proj 4 d, .val), (proj 5 d, .val), (proj 6 d, .val), (proj 7 d, .val), (proj 8 d, .val), (proj 9 d, .val), (proj 10 d, .val), (proj 11 d, .val), (proj 12 d, .val), (proj 13 d, .val), (proj 14 d, .val), (proj 15 d, .val), (proj 16 d, .val), (proj 17 d, .val), (proj 18 d, .val), (proj 19 d, .val)] vs (by rw [← h10]; rfl) hv l hl
  unfold outSg at hs
  have dl : dList (encBnds l) = some (4, l.map encBnd) := rfl
  simp only [h0', decide_false, Bool.false_eq_true, if_false, dl, ob_some', BEq.rfl, Bool.true_and, List.length_map, hl, decide_true, og_true']
  rw [h10] at hs
  simp only [hs, ob_some', List.getD_cons_zero]
end Go.Su

/-
 The functions' specs that this claim needs.
-/
namespace Go.Su
set_option linter.unusedVariables false
set_option linter.unusedSimpArgs false
theorem sp_typ_arity (k : Int) : (run cfg).p F_typ_arity [.int .i64 k] = some (.int .i64 (arity k)) := by
 refine call_typ_arity _ ?_
 rw [eq_typ_arity]
 simp [arity]
 by_cases h1 : k = 1 <;> by_cases h2 : k = 2 <;> by_cases h3 : k = 3 <;> by_cases h4 : k = 4 <;> by_cases h5 : k = 5 <;> by_cases h6 : k = 6 <;> by_cases h7 : k = 7 <;> by_cases h8 : k = 8 <;> by_cases h9 : k = 9 <;> simp_all
theorem sp_typ_right (t : Ty) : t.thin = true → (run cfg).p F_typ_right [t.enc] = some (.bool t.right) := by
 induction t using Ty.ind with
 | h t ih =>
   intro ht
   have hb := t.thin_len ht
   refine call_typ_right _ ?_
   have loop : P_typ_right_9h (run cfg) (.list 3 (t.kids.map Ty.enc)) (.int .i64 t.kids.length) (.int .i64 0) = _ := loop_all (l := t.kids) (f := Ty.right) (P := fun i => P_typ_right_9h (run cfg) (.list 3 (t.kids.map Ty.enc)) (.int .i64 t.kids.length) (.int .i64 i)) (y := .bool true) (n := .bool false)
    (by rw [eq_typ_right_9h]; simp)
    (fun i h => by
      rw [eq_typ_right_9h]
      simp [h, dIdx_map h, Ty.eta, Ty.ag, ih _ (List.getElem_mem h) (Ty.thin_kid ht (List.getElem_mem h)), dAdd1 (show i < 9223372036854775807 by omega)]
      cases t.kids[i].right <;> rfl)
   rw [eq_typ_right]
   simp only [isAggN_Ty, og_true', Ty.proj0, Ty.proj1, Ty.proj2, sp_typ_arity, ob_some', dLen_list, dBin_neq, dBin_lss, dBin_gtr, dBin_geq, dBin_leq, dBin_eql, ogd_bool, oif_bool, loop, Ty.right_eq t, List.length_map]
   have h0 : t.kind = 6 → arity t.kind = 0 := fun h => by rw [h]; rfl
   have h7 : t.kind = 6 → arity t.kind = t.kids.length → t.kids.all Ty.right = true := fun h h' => by
    have : t.kids = [] := List.eq_nil_of_length_eq_zero (by have := h0 h; omega)
    rw [this]; rfl
   have h8 : (t.kids.length : Int) = arity t.kind ↔ arity t.kind = t.kids.length := eq_comm
   simp only [h8, ite_sb, ite_db]
   refine sb_iff ?_
   by_cases h1 : arity t.kind = t.kids.length
   ·have h2 : ¬ (arity t.kind < 0) := by omega
    by_cases h4 : t.kind = 6
    ·simp [h1, h2, h4, h7 h4 h1]
     omega
    ·by_cases h5 : t.n = 0 <;> simp [h1, h2, h4, h5]
   ·by_cases h2 : arity t.kind < 0 <;> simp [h1, h2]
theorem sp_typ_Check (t : Ty) (ht : t.thin = true) : (run cfg).p F_typ_Check [t.enc] = some (.int .i64 (if t.right = true then 0 else 1)) := by
 refine call_typ_Check _ ?_
 rw [eq_typ_Check]
 simp [Ty.eta, Ty.ag, sp_typ_right t ht]
 cases t.right <;> rfl
def FirstIs (es : List (DV × DV)) (l : List (Int × Ty)) : Prop :=
 ∀ v, match mGet es (.int .i64 v) with
   | none => ∀ e ∈ l, e.1 ≠ v
   | some d => ∃ (i : Nat) (h : i < l.length), d = .int .i64 i ∧ l[i].1 = v ∧ ∀ j (hj : j < i), (l[j]'(by omega)).1 ≠ v
theorem FirstIs.look {es : List (DV × DV)} {l : List (Int × Ty)} (h : FirstIs es l) (v : Int) : (mGet es (.int .i64 v) = none ∧ look l v = none) ∨ ∃ (i : Nat) (hi : i < l.length), mGet es (.int .i64 v) = some (.int .i64 i) ∧ look l v = some l[i].2 := by
 have := h v
 cases hm : mGet es (.int .i64 v) with
 | none =>
   rw [hm] at this
   left
   refine ⟨rfl, ?_⟩
   unfold Su.look
   rw [List.find?_eq_none.2]
   ·rfl
   ·intro e he; simpa using this e he
 | some d =>
   rw [hm] at this
   obtain ⟨i, hi, rfl, h1, h2⟩ := this
   right
   refine ⟨i, hi, rfl, ?_⟩
   unfold Su.look
   have : l.find? (fun e => decide (e.1 = v)) = some l[i] := by
    rw [List.find?_eq_some_iff_getElem]
    refine ⟨by simpa using h1, i, hi, rfl, fun j hj => ?_⟩
    simpa using h2 j hj
   rw [this]
   rfl
theorem sp_scheme_put (l : List (Int × Ty)) (es : List (DV × DV)) (hf : FirstIs es l) (i : Nat) (sg : List SObj) (hm : sgMap sg i = some (false, es)) (t : Ty) : t.right = true →
 (run cfg).r F_scheme_put [(t.enc, .val), (encBnds l, .val), (.undef, .map i)] sg = some ([(t.put l).enc], sg) := by
 induction t using Ty.ind with
 | h t ih =>
   intro ht
   have hb := t.thin_len (Ty.thin_of_right ht)
   refine call_scheme_put _ _ _ _ ?_
   rw [eq_scheme_put, Ty.put_eq]
   by_cases h6 : t.kind = 6
   ·have e6 : DV.agg [.int .i64 6, .int .i64 t.n, .list 3 (t.kids.map Ty.enc)] = t.enc := by rw [← h6]; exact Ty.eta t
    rcases hf.look t.n with ⟨h1, h2⟩ | ⟨j, hj, h1, h2⟩
    ·simp [h6, hm, h1, h2, e6]
    ·have e1 : dIdx 4 (encBnds l) (.int .i64 (j : Int)) = some (encBnd l[j]) := dIdx_map hj
     simp [h6, hm, h1, h2, e1, Ty.eta, Ty.ag]
   ·have loop := loop_fold (l := t.kids) (P := fun j (a : List Ty) => P_scheme_put_10h (run cfg) (encBnds l) i (.list 3 (t.kids.map Ty.enc)) (.int .i64 t.kids.length) (.int .i64 j) (.int .i64 t.kind) (.list 3 (a.map Ty.enc)) sg)
     (g := fun a k => a ++ [k.put l]) (fin := fun a => some ([(Ty.mk t.kind 0 a).enc], sg)) (I := fun j a => a.length = j)
     (fun a _ => by rw [eq_scheme_put_10h]; simp [Ty.enc_eq])
     (fun j h a ha => by
       refine ⟨?_, by simp [ha]⟩
       rw [eq_scheme_put_10h]
       have := dApp_map (e := Ty.enc) (sz := 3) (l := a) (x := t.kids[j].put l) (by unfold lim; omega)
       simp [h, dIdx_map h, Ty.eta, Ty.ag, ih _ (List.getElem_mem h) (Ty.right_kid ht (List.getElem_mem h)), this, dAdd1 (show j < 9223372036854775807 by omega)]) [] rfl
    have e : ∀ (m : List Ty) (a : List Ty), m.foldl (fun a k => a ++ [k.put l]) a = a ++ m.map (Ty.put l) := by
     intro m
     induction m with
     | nil => intro a; simp
     | cons x m ih => intro a; simp [ih]
    rw [e] at loop
    have hn : t.n = 0 := by have := (Ty.right_iff.1 ht).2.2.2.1; omega
    by_cases h0 : t.kids.length = 0
    ·have hk : t.kids = [] := List.eq_nil_of_length_eq_zero h0
     simp only [if_neg h6, hk, List.map_nil, Ty.enc_eq (Ty.mk t.kind t.n [])]
     simp [h6, hk]
     try (rw [Ty.enc_eq t, hk]; rfl)
    ·have h0' : ¬ ((t.kids.length : Int) = 0) := by omega
     simp only [List.map_nil, List.nil_append] at loop
     have h0'' : ¬ t.kids = [] := fun h => h0 (by rw [h]; rfl)
     simp [h6, h0', h0'', hn, loop]
theorem sp_scheme_Subst (t : Ty) (l : List (Int × Ty)) (ht : t.thin = true) (hl : l.length ≤ lim) (hlt : ∀ e ∈ l, e.2.thin = true) :
 (run cfg).p F_scheme_Subst [t.enc, encBnds l] = some (if t.right = true ∧ rightBinds l = true then .tup [(t.put l).enc, .int .i64 0] else .tup [zeroTy.enc, .int .i64 1]) := by
 have hb := big hl
 have z : zeroTy.enc = .agg [.int .i64 0, .int .i64 0, .list 3 []] := by rw [Ty.enc_eq]; rfl
 refine call_scheme_Subst _ _ ?_
 rw [eq_scheme_Subst]
 by_cases hr : t.right = true
 ·have loop : ∀ (m i : Nat) (es : List (DV × DV)), i + m = l.length → FirstIs es (l.take i) → (l.take i).all (fun e => decide (0 ≤ e.1) && decide (e.1 ≤ 1048576) && e.2.right) = true →
   P_scheme_Subst_5h (run cfg) (encBnds l) (encBnds l) (.int .i64 l.length) (.int .i64 i) t.enc [.map false es] = some (if rightBinds l = true then .tup [(t.put l).enc, .int .i64 0] else .tup [zeroTy.enc, .int .i64 1]) := by
   intro m
   induction m with
   | zero =>
     intro i es hi hf ha
     rw [List.take_of_length_le (by omega)] at hf ha
     have : ¬ i < l.length := by omega
     rw [eq_scheme_Subst_5h]
     have hp := sp_scheme_put l es hf 0 [.map false es] rfl t hr
     have ha' : rightBinds l = true := ha
     simp [this, Ty.eta, Ty.ag, hp, ha']
   | succ m ihm =>
     intro i es hi hf ha
     have h : i < l.length := by omega
     have hmem : l[i] ∈ l := List.getElem_mem h
     have ha' : ¬ (0 ≤ l[i].1 ∧ l[i].1 ≤ 1048576 ∧ l[i].2.right = true) → rightBinds l = false := by
      intro hh
      rw [Bool.eq_false_iff]
      intro h'
      exact hh (rightBinds_iff.1 h' _ hmem)
     rw [eq_scheme_Subst_5h]
     have e1 : dIdx 4 (encBnds l) (.int .i64 (i : Int)) = some (encBnd l[i]) := dIdx_map h
     by_cases h1 : l[i].1 < 0
     ·simp [h, e1, h1, ha' (by omega), z]
     by_cases h2 : 1048576 < l[i].1
     ·simp [h, e1, h1, h2, ha' (by omega), z]
     cases h3 : l[i].2.right
     ·simp [h, e1, h1, h2, Ty.eta, Ty.ag, sp_typ_Check _ (hlt _ hmem), h3, ha' (by simp [h3]), z]
     have hm : sgMap [SObj.map false es] 0 = some (false, es) := rfl
     have hall : (l.take (i + 1)).all (fun e => decide (0 ≤ e.1) && decide (e.1 ≤ 1048576) && e.2.right) = true := by
      rw [List.take_succ_eq_append_getElem h, List.all_append, ha]
      have h1' : 0 ≤ l[i].1 := by omega
      have h2' : l[i].1 ≤ 1048576 := by omega
      simp [h1', h2', h3]
     have hlen : (l.take i).length = i := by simp; omega
     cases hg : mGet es (.int .i64 l[i].1) with
     | none =>
       have nx := ihm (i + 1) (mSet es (.int .i64 l[i].1) (.int .i64 i)) (by omega) (by
        intro v
        rw [mGet_setI]
        by_cases e : l[i].1 = v
        ·rw [if_pos e]
         refine ⟨i, by simp; omega, rfl, by simpa using e, fun j hj => ?_⟩
         have := hf l[i].1
         rw [hg] at this
         have := this l[j] (List.mem_take_iff_getElem.2 ⟨j, by omega, rfl⟩)
         simpa [e] using this
        ·rw [if_neg e]
         have := hf v
         cases hv : mGet es (.int .i64 v) with
         | none =>
           rw [hv] at this
           intro x hx
           rw [List.take_succ_eq_append_getElem h, List.mem_append, List.mem_singleton] at hx
           rcases hx with hx | rfl
           ·exact this x hx
           ·exact e
         | some d =>
           rw [hv] at this
           obtain ⟨k, hk, a, b, c⟩ := this
           rw [hlen] at hk
           refine ⟨k, by simp; omega, a, by simpa using b, fun j hj => by simpa using c j hj⟩) hall
       push_cast at nx
       simp [h, e1, h1, h2, Ty.eta, Ty.ag, sp_typ_Check _ (hlt _ hmem), h3, hm, hg, dAdd1 (show i < 9223372036854775807 by omega), nx]
     | some d =>
       have nx := ihm (i + 1) es (by omega) (by
        intro v
        have := hf v
        cases hv : mGet es (.int .i64 v) with
        | none =>
          rw [hv] at this
          intro x hx
          rw [List.take_succ_eq_append_getElem h, List.mem_append, List.mem_singleton] at hx
          rcases hx with hx | rfl
          ·exact this x hx
          ·intro e; rw [e, hv] at hg; cases hg
        | some d =>
          rw [hv] at this
          obtain ⟨k, hk, a, b, c⟩ := this
          rw [hlen] at hk
          refine ⟨k, by simp; omega, a, by simpa using b, fun j hj => by simpa using c j hj⟩) hall
       push_cast at nx
       simp [h, e1, h1, h2, Ty.eta, Ty.ag, sp_typ_Check _ (hlt _ hmem), h3, hm, hg, dAdd1 (show i < 9223372036854775807 by omega), nx]
  have l0 := loop l.length 0 [] (by omega) (fun v => by simp [mGet]) (by simp)
  simp only [Int.natCast_zero, Int.ofNat_zero, Int.cast_ofNat_Int] at l0
  have dl : dLen (encBnds l) = some (.int .i64 l.length) := by simp [encBnds]
  simp [Ty.eta, Ty.ag, sp_typ_Check t ht, hr, dl, l0]
 ·simp [Ty.eta, Ty.ag, sp_typ_Check t ht, hr, z]
theorem e6 : errOk 6 := .inr (.inl rfl)
def Deriv.fit (d : Deriv) : Prop := d.types.length < lim ∧ d.vars.length < lim ∧ d.kids.length < lim ∧ (∀ t ∈ d.types, t.thin = true) ∧ ∀ k : { x // x ∈ d.kids }, Deriv.fit k.1
termination_by SizeOf.sizeOf d
decreasing_by exact Deriv.kid_lt k.2
def Deriv.put (l : List (Int × Ty)) : Deriv → Deriv
 | .mk ts vs ks => .mk (ts.map (Ty.put l)) vs (ks.map (Deriv.put l))
def Ty.plain (K : Int → Bool) : Ty → Ty
 | .mk k n ks => if k = 6 ∧ K n = false then .mk 5 0 [] else .mk k n (ks.map (Ty.plain K))
def Deriv.plain (K : Int → Bool) : Deriv → Deriv
 | .mk ts vs ks => .mk (ts.map (Ty.plain K)) vs (ks.map (Deriv.plain K))
inductive Val.plain : Val → Prop where
 | mk (v : Val) : v.c = noCoer → v.kids.length < lim → (∀ k ∈ v.kids, k.plain) → v.plain
theorem Val.plain.kid {v k : Val} (h : v.plain) (hk : k ∈ v.kids) : k.plain := by cases h with | mk _ _ _ g => exact g k hk
end Go.Su

/-
 What the program's functions on terms give: types put into terms.
-/
namespace Go.Su
set_option linter.unusedVariables false
set_option linter.unusedSimpArgs false
theorem tyx3 (k : Ty) : (DV.agg [proj 0 k.enc, proj 1 k.enc, proj 2 k.enc]) = k.enc := by simp [Ty.eta, Ty.ag]
theorem tyx3k (k : Ty) : (DV.agg [.int .i64 k.kind, proj 1 k.enc, proj 2 k.enc]) = k.enc := by rw [← Ty.proj0, tyx3]
theorem tmx3 (k : Tm) : (DV.agg [proj 0 k.enc, proj 1 k.enc, proj 2 k.enc, proj 3 k.enc, proj 4 k.enc, proj 5 k.enc, proj 6 k.enc, proj 7 k.enc, proj 8 k.enc, proj 9 k.enc, proj 10 k.enc, proj 11 k.enc, proj 12 k.enc, proj 13 k.enc, proj 14 k.enc, proj 15 k.enc, proj 16 k.enc, proj 17 k.enc, proj 18 k.enc, proj 19 k.enc]) = k.enc := by simp [Tm.eta, Tm.ag]
theorem tm_a (t : Tm) : DV.agg [proj 11 t.enc, proj 12 t.enc, proj 13 t.enc] = t.a.enc := by rw [Tm.enc_eq, Ty.enc_eq]; rfl
theorem tm_b (t : Tm) : DV.agg [proj 14 t.enc, proj 15 t.enc, proj 16 t.enc] = t.b.enc := by rw [Tm.enc_eq, Ty.enc_eq]; rfl
theorem rb_right {l : Bds} (h : rightBinds l = true) : ∀ e ∈ l, e.2.right = true := by
 unfold rightBinds at h
 rw [List.all_eq_true] at h
 intro e he
 have := h e he
 simp only [Bool.and_eq_true] at this
 exact this.2
theorem sp_term_put (t : Ty) (l : Bds) (ht : t.right = true ∨ t.none = true) (hl : l.length ≤ lim) (hr : rightBinds l = true) : (run cfg).p F_term_put [t.enc, encBnds l] = some (t.putN l).enc := by
 refine call_term_put _ _ ?_
 rw [eq_term_put]
 unfold Ty.putN
 simp only [Ty.proj0 t, tyx3, tyx3k, isAggN_Ty, og_true', dBin_eql, ob_some', oif_bool]
 by_cases h0 : t.kind = 0
 ·simp only [h0, decide_true, if_true]
 ·have rt : t.right = true := by
   rcases ht with h | h
   ·exact h
   ·unfold Ty.none at h
    simp only [Bool.and_eq_true, decide_eq_true_eq] at h
    exact absurd h.1.1 h0
  have s := sp_scheme_Subst t l (Ty.thin_of_right rt) hl fun e he => Ty.thin_of_right (rb_right hr e he)
  rw [if_pos ⟨rt, hr⟩] at s
  have x0 : ∀ a b, dExt 0 (.tup [a, b]) = some a := fun _ _ => rfl
  have x1 : ∀ a b, dExt 1 (.tup [a, b]) = some b := fun _ _ => rfl
  simp only [h0, decide_false, Bool.false_eq_true, if_false, s, ob_some', x0, x1, isAggN_Ty, og_true', tyx3]
theorem Tm.types_right {t : Tm} (h : t.right = true) : (t.a.right = true ∨ t.a.none = true) ∧ (t.b.right = true ∨ t.b.none = true) ∧ ∀ y ∈ t.args, y.right = true := by
 have o := Tm.right_one h
 unfold Tm.one Tm.one1 Tm.one2 Tm.one3 Tm.one4 Tm.one5 Tm.lists typedB at o
 simp only [Bool.and_eq_true, List.all_eq_true] at o
 refine ⟨?_, ?_, ?_⟩
 ·have := o.1.1.2
  split at this
  ·exact .inl this
  ·exact .inr this
 ·have := o.1.2
  split at this
  ·exact .inl this
  ·exact .inr this
 ·exact o.2.2.2.2.2.2.1.2
noncomputable def tyArgs (t : Tm) (l : Bds) (j : Nat) (A : List Ty) (K : List Tm) : Option DV :=
 P_term_types_3h (run cfg) (encBnds l) t.args.length (.int .i64 t.args.length) (.int .i64 (j : Int)) (proj 0 t.enc) (proj 1 t.enc) (proj 2 t.enc) (proj 3 t.enc) (proj 4 t.enc) (proj 5 t.enc) (proj 6 t.enc) (proj 7 t.enc) (proj 8 t.enc) (proj 9 t.enc) (proj 10 t.enc) (proj 11 t.enc) (proj 12 t.enc) (proj 13 t.enc) (proj 14 t.enc) (proj 15 t.enc) (proj 16 t.enc) t.args.length (proj 18 t.enc) t.kids.length [.arr 3 (A.map Ty.enc), .arr 20 (K.map Tm.enc)]
noncomputable def tyKids (t : Tm) (l : Bds) (j : Nat) (A : List Ty) (K : List Tm) : Option DV :=
 P_term_types_8h (run cfg) (encBnds l) t.kids.length (.int .i64 t.kids.length) (.int .i64 (j : Int)) (proj 0 t.enc) (proj 1 t.enc) (proj 2 t.enc) (proj 3 t.enc) (proj 4 t.enc) (proj 5 t.enc) (proj 6 t.enc) (proj 7 t.enc) (proj 8 t.enc) (proj 9 t.enc) (proj 10 t.enc) (proj 11 t.enc) (proj 12 t.enc) (proj 13 t.enc) (proj 14 t.enc) (proj 15 t.enc) (proj 16 t.enc) t.args.length (proj 18 t.enc) t.kids.length [.arr 3 (A.map Ty.enc), .arr 20 (K.map Tm.enc)]
theorem arr_at {A : List Ty} {K : List Tm} : sgArr [SObj.arr 3 (A.map Ty.enc), .arr 20 (K.map Tm.enc)] 0 = some (3, A.map Ty.enc) ∧ sgArr [SObj.arr 3 (A.map Ty.enc), .arr 20 (K.map Tm.enc)] 1 = some (20, K.map Tm.enc) := ⟨rfl, rfl⟩
theorem set_get_ne {α : Type} {l m : List α} {j : Nat} {y : α} (h : ∀ i : Nat, j ≤ i → l[i]? = m[i]?) : ∀ i : Nat, j + 1 ≤ i → (l.set j y)[i]? = m[i]? := fun i hi => by rw [List.getElem?_set_ne (by omega)]; exact h i (by omega)
theorem take_set_succ {α : Type} {l : List α} {j : Nat} (h : j < l.length) (y : α) : (l.set j y).take (j + 1) = l.take j ++ [y] := by
 rw [List.take_succ_eq_append_getElem (by simpa using h), List.take_set_of_le (Nat.le_refl _), List.getElem_set_self]
theorem sp_term_types (t : Tm) : t.fit → t.right = true → ∀ l : Bds, l.length ≤ lim → rightBinds l = true → (run cfg).p F_term_types [t.enc, encBnds l] = some (t.typs l).enc := by
 induction t using Tm.ind with
 | h t ih =>
   intro ft rt l hl hr
   obtain ⟨ra, rb, rargs⟩ := Tm.types_right rt
   have fk := Nat.le_of_lt ft.one.kids
   have fa := Nat.le_of_lt ft.one.args
   have hK := big fk
   have hA := big fa
   have fv := Nat.le_of_lt ft.one.vars
   have fin : ∀ (own : Bds) (A : List Ty) (K : List Tm), own.length ≤ lim → rightBinds own = true → A.length = t.args.length → K.length = t.kids.length →
    P_term_types_14 (run cfg) (encBnds own) (proj 0 t.enc) (proj 1 t.enc) (proj 2 t.enc) (proj 3 t.enc) (proj 4 t.enc) (proj 5 t.enc) (proj 6 t.enc) (proj 7 t.enc) (proj 8 t.enc) (proj 9 t.enc) (proj 10 t.enc) (proj 11 t.enc) (proj 12 t.enc) (proj 13 t.enc) (proj 14 t.enc) (proj 15 t.enc) (proj 16 t.enc) t.args.length (proj 18 t.enc) t.kids.length [.arr 3 (A.map Ty.enc), .arr 20 (K.map Tm.enc)] =
    some (Tm.mk t.kind t.lo t.hi t.name t.arg t.n t.s t.op t.label t.neg t.vars (t.a.putN own) (t.b.putN own) A t.pats K).enc := by
    intro own A K h1 h2 h3 h4
    have sv : ∀ d, sealCell [SObj.arr 3 (A.map Ty.enc), .arr 20 (K.map Tm.enc)] (d, .val) = some d := fun _ => rfl
    have sa : sealCell [SObj.arr 3 (A.map Ty.enc), .arr 20 (K.map Tm.enc)] (.undef, .arr 0 3 0 t.args.length) = some (.list 3 (A.map Ty.enc)) := by
     simp only [sealCell, arr_at.1, ob_some', BEq.rfl, og_true', Nat.zero_add, List.length_map, h3, Nat.le_refl, if_true, List.drop_zero]
     rw [List.take_of_length_le (by simp [h3])]
    have sk : sealCell [SObj.arr 3 (A.map Ty.enc), .arr 20 (K.map Tm.enc)] (.undef, .arr 1 20 0 t.kids.length) = some (.list 20 (K.map Tm.enc)) := by
     simp only [sealCell, arr_at.2, ob_some', BEq.rfl, og_true', Nat.zero_add, List.length_map, h4, Nat.le_refl, if_true, List.drop_zero]
     rw [List.take_of_length_le (by simp [h4])]
    rw [eq_term_types_14]
    simp only [tm_a, tm_b, sp_term_put t.a own ra h1 h2, sp_term_put t.b own rb h1 h2, ob_some', isAggN_Ty, og_true', sealCells, sv, sa, sk, retL, seqO]
    rw [Tm.enc_eq (Tm.mk _ _ _ _ _ _ _ _ _ _ _ _ _ _ _ _)]
    simp only [Tm.pj, Ty.proj0, Ty.proj1, Ty.proj2, Tm.kind_mk, Tm.lo_mk, Tm.hi_mk, Tm.name_mk, Tm.arg_mk, Tm.n_mk, Tm.s_mk, Tm.op_mk, Tm.label_mk, Tm.neg_mk, Tm.vars_mk, Tm.a_mk, Tm.b_mk, Tm.args_mk, Tm.pats_mk, Tm.kids_mk]
    rfl
   have hid : ∀ j : Int, (run cfg).p F_term_outside [.agg [proj 0 t.enc, proj 1 t.enc, proj 2 t.enc, proj 3 t.enc, proj 4 t.enc, proj 5 t.enc, proj 6 t.enc, proj 7 t.enc, proj 8 t.enc, proj 9 t.enc, proj 10 t.enc, proj 11 t.enc, proj 12 t.enc, proj 13 t.enc, proj 14 t.enc, proj 15 t.enc, proj 16 t.enc, .undef, proj 18 t.enc, .undef], .int .i64 j, encBnds l] = some (encBnds (if 0 < j then l else bOut l t.vars)) := fun j =>
    sp_term_outside _ t.vars rfl (by show proj 10 t.enc = _; rw [Tm.proj10]) fv j l hl
   have kids : ∀ (n j : Nat) (A : List Ty) (K : List Tm), j + n = t.kids.length → A.length = t.args.length → K.length = t.kids.length → (∀ i : Nat, j ≤ i → K[i]? = t.kids[i]?) →
    tyKids t l j A K = some (Tm.mk t.kind t.lo t.hi t.name t.arg t.n t.s t.op t.label t.neg t.vars (t.a.putN (if t.kind = 12 then bOut l t.vars else l)) (t.b.putN (if t.kind = 12 then bOut l t.vars else l)) A t.pats (K.take j ++ (Tm.typsL t.kids (bOut l t.vars) l).drop j)).enc := by
    intro n
    induction n with
    | zero =>
      intro j A K hj ha hk _
      have e : j = t.kids.length := by omega
      subst e
      have ho := hid 0
      rw [if_neg (by omega)] at ho
      unfold tyKids
      rw [eq_term_types_8h]
      simp only [dBin_lss, Int.lt_irrefl, decide_false, ob_some', oif_bool, Bool.false_eq_true, if_false, Tm.proj0 t, dBin_eql]
      rw [← Tm.proj0 t]
      rw [List.take_of_length_le (Nat.le_of_eq hk), List.drop_eq_nil_of_le (by rw [Tm.typsL_len]; exact Nat.le_refl _), List.append_nil]
      by_cases h12 : t.kind = 12
      ·simp only [h12, decide_true, if_true, ho, ob_some']
       have := fin (bOut l t.vars) A K (Nat.le_trans (bOut_len l _) hl) (rightBinds_out hr _) ha hk
       rw [this, h12]
      ·simp only [h12, decide_false, Bool.false_eq_true, if_false]
       exact fin l A K hl hr ha hk
    | succ n ihn =>
      intro j A K hj ha hk hc
      have h : j < t.kids.length := by omega
      have h' : j < K.length := by omega
      have hcj : K[j] = t.kids[j] := by
       have := hc j (Nat.le_refl _)
       rw [List.getElem?_eq_getElem h, List.getElem?_eq_getElem h'] at this
       simpa using this
      have g1 : (K.map Tm.enc)[j]? = some t.kids[j].enc := by rw [List.getElem?_map, List.getElem?_eq_getElem h', hcj]; rfl
      have e1 : dBin .add (.int .i64 (j : Int)) (.int .i64 1) = some (.int .i64 ((j + 1 : Nat) : Int)) := dAdd1 (show j < 9223372036854775807 by omega)
      have hb : (if (0 : Int) < (j : Int) then l else bOut l t.vars) = bKid j (bOut l t.vars) l := by
       unfold bKid
       by_cases h0 : j = 0
       ·subst h0; rfl
       ·rw [if_pos (by omega), if_neg h0]
      have ho := hid (j : Int)
      rw [hb] at ho
      have bl : (bKid j (bOut l t.vars) l).length ≤ lim := by
       unfold bKid; split
       ·exact Nat.le_trans (bOut_len l _) hl
       ·exact hl
      have br : rightBinds (bKid j (bOut l t.vars) l) = true := by
       unfold bKid; split
       ·exact rightBinds_out hr _
       ·exact hr
      have f1 := ih _ (List.getElem_mem h) (ft.kid (List.getElem_mem h)) (Tm.right_kid rt (List.getElem_mem h)) _ bl br
      have nx := ihn (j + 1) A (K.set j (t.kids[j].typs (bKid j (bOut l t.vars) l))) (by omega) ha (by simpa using hk) (set_get_ne hc)
      rw [take_set_succ h'] at nx
      unfold tyKids at nx ⊢
      rw [eq_term_types_8h]
      rw [List.map_set] at nx
      simp only [dBin_lss, Int.ofNat_lt, h, decide_true, ob_some', oif_bool, if_true, arr_nat h, arr_at.2, g1, BEq.rfl, og_true', ho, tmx3, f1, isAggN_Tm, e1, List.set_cons_succ, List.set_cons_zero]
      rw [nx]
      have e2 : (Tm.typsL t.kids (bOut l t.vars) l).drop j = t.kids[j].typs (bKid j (bOut l t.vars) l) :: (Tm.typsL t.kids (bOut l t.vars) l).drop (j + 1) := by
       have hlt : j < (Tm.typsL t.kids (bOut l t.vars) l).length := by rw [Tm.typsL_len]; exact h
       rw [List.drop_eq_getElem_cons hlt]
       congr 1
       have := Tm.typsL_get (bOut l t.vars) l t.kids j
       rw [List.getElem?_eq_getElem hlt, List.getElem?_eq_getElem h, Option.map_some, Option.some.injEq] at this
       exact this
      rw [e2, List.append_assoc]
      rfl
   have args : ∀ (n j : Nat) (A : List Ty), j + n = t.args.length → A.length = t.args.length → (∀ i : Nat, j ≤ i → A[i]? = t.args[i]?) → tyArgs t l j A t.kids = tyKids t l 0 (A.take j ++ (t.args.map (Ty.putN l)).drop j) t.kids := by
    intro n
    induction n with
    | zero =>
      intro j A hj ha _
      have e : j = t.args.length := by omega
      subst e
      unfold tyArgs tyKids
      rw [eq_term_types_3h]
      simp only [dBin_lss, Int.lt_irrefl, decide_false, ob_some', oif_bool, Bool.false_eq_true, if_false]
      rw [List.take_of_length_le (Nat.le_of_eq ha), List.drop_eq_nil_of_le (by simp), List.append_nil]
      rfl
    | succ n ihn =>
      intro j A hj ha hc
      have h : j < t.args.length := by omega
      have h' : j < A.length := by omega
      have hcj : A[j] = t.args[j] := by
       have := hc j (Nat.le_refl _)
       rw [List.getElem?_eq_getElem h, List.getElem?_eq_getElem h'] at this
       simpa using this
      have g1 : (A.map Ty.enc)[j]? = some t.args[j].enc := by rw [List.getElem?_map, List.getElem?_eq_getElem h', hcj]; rfl
      have e1 : dBin .add (.int .i64 (j : Int)) (.int .i64 1) = some (.int .i64 ((j + 1 : Nat) : Int)) := dAdd1 (show j < 9223372036854775807 by omega)
      have f1 := sp_term_put t.args[j] l (.inl (rargs _ (List.getElem_mem h))) hl hr
      have nx := ihn (j + 1) (A.set j (t.args[j].putN l)) (by omega) (by simpa using ha) (set_get_ne hc)
      rw [take_set_succ h'] at nx
      unfold tyArgs at nx ⊢
      rw [eq_term_types_3h]
      rw [List.map_set] at nx
      simp only [dBin_lss, Int.ofNat_lt, h, decide_true, ob_some', oif_bool, if_true, arr_nat h, arr_at.1, g1, BEq.rfl, og_true', tyx3, f1, isAggN_Ty, e1, List.set_cons_zero]
      rw [nx]
      congr 1
      have hlt : j < (t.args.map (Ty.putN l)).length := by simpa using h
      rw [List.drop_eq_getElem_cons hlt, List.append_assoc, List.getElem_map]
      rfl
   refine call_term_types _ _ ?_
   rw [eq_term_types]
   simp only [isAggN_Tm, og_true', Tm.proj17 t, Tm.proj19 t, dList_list, ob_some', BEq.rfl, Bool.true_and, List.length_map, fa, fk, decide_true]
   have h1 := args t.args.length 0 t.args (by omega) rfl fun i _ => rfl
   have h2 := kids t.kids.length 0 (t.args.map (Ty.putN l)) t.kids (by omega) (by simp) rfl fun i _ => rfl
   rw [List.take_zero, List.drop_zero, List.nil_append] at h1 h2
   rw [Tm.typs_eq, ← h2, ← h1]
   rfl
end Go.Su

/-
 The functions' specs that this claim needs.
-/
namespace Go.Su
set_option linter.unusedVariables false
set_option linter.unusedSimpArgs false
theorem Ty.kid_big {t k : Ty} (ht : t.size ≤ lim) (h : k ∈ t.kids) : k.size ≤ lim := by have := Ty.size_kid h; omega
theorem Ty.len_big {t : Ty} (ht : t.size ≤ lim) : t.kids.length < 4294967296 := by have := t.len_lt; have := big ht; omega
theorem sp_r03_Size (t : Ty) : t.size ≤ lim → (run cfg).p F_r03_Size [t.enc] = some (.int .i64 t.size) := by
 induction t using Ty.ind with
 | h t ih =>
   intro ht
   have hb := Ty.len_big ht
   refine call_r03_Size _ ?_
   rw [eq_r03_Size]
   simp only [isAggN_Ty, og_true']
   have loop := loop_fold (l := t.kids) (P := fun i (a : Nat) => P_r03_Size_3h (run cfg) (.int .i64 a) (.int .i64 i) t.enc) (g := fun a k => a + k.size) (fin := fun a => some (.int .i64 a))
    (I := fun i a => a + ((t.kids.drop i).map Ty.size).sum ≤ lim)
    (fun a _ => by rw [eq_r03_Size_3h]; simp)
    (fun i h a ha => by
      rw [List.drop_eq_getElem_cons h, List.map_cons, List.sum_cons] at ha
      have := big ha
      refine ⟨?_, by omega⟩
      rw [eq_r03_Size_3h]
      simp [h, dIdx_map h, Ty.eta, Ty.ag, ih _ (List.getElem_mem h) (Ty.kid_big ht (List.getElem_mem h)), dAdd1 (show i < 9223372036854775807 by omega)]
      rw [dAdd (by omega) (by omega)]
      simp) 1 (by have := Ty.size_eq t; simpa using (by omega : 1 + (t.kids.map Ty.size).sum ≤ lim))
   have e : ∀ (l : List Ty) (a : Nat), l.foldl (fun a k => a + k.size) a = a + (l.map Ty.size).sum := by
    intro l
    induction l with
    | nil => intro a; simp
    | cons x l ih => intro a; simp [ih]; omega
   rw [e, ← Ty.size_eq] at loop
   exact loop
theorem sp_r03_In (l : List Int) (hl : l.length ≤ lim) (n : Int) : (run cfg).p F_r03_In [encInts l, .int .i64 n] = some (.bool (decide (n ∈ l))) := by
 have hb := big hl
 refine call_r03_In _ _ ?_
 rw [eq_r03_In]
 have loop := loop_anyB (l := l) (f := fun x => decide (x = n)) (P := fun i => P_r03_In_2h (run cfg) (encInts l) (.int .i64 n) (.int .i64 i))
  (by rw [eq_r03_In_2h]; simp)
  (fun i h => by
    rw [eq_r03_In_2h]
    simp [h, dIdx_ints h, dAdd1 (show i < 9223372036854775807 by omega)])
 refine loop.trans ?_
 congr 2
 rw [Bool.eq_iff_iff]
 simp
theorem sp_r03_vars (t : Ty) : ∀ (l : List Int) (sg : List SObj), l.length + t.size ≤ lim → (run cfg).r F_r03_vars [(t.enc, .val), (encInts l, .own)] sg = some ([encInts (t.varsOn l)], sg) := by
 induction t using Ty.ind with
 | h t ih =>
   intro l sg hl
   have hb := Ty.len_big (show t.size ≤ lim by omega)
   have hB := big hl
   refine call_r03_vars _ _ _ ?_
   have loop : ∀ l : List Int, l.length + (t.kids.map Ty.size).sum ≤ lim → P_r03_vars_4h (run cfg) (encInts l) (.int .i64 0) t.enc sg = some ([encInts (t.kids.foldl (fun l k => k.varsOn l) l)], sg) :=
    loop_fold (l := t.kids) (P := fun i (a : List Int) => P_r03_vars_4h (run cfg) (encInts a) (.int .i64 i) t.enc sg) (g := fun a k => k.varsOn a) (fin := fun a => some ([encInts a], sg))
     (I := fun i a => a.length + ((t.kids.drop i).map Ty.size).sum ≤ lim)
     (fun a _ => by rw [eq_r03_vars_4h]; simp)
     (fun i h a ha => by
       rw [List.drop_eq_getElem_cons h, List.map_cons, List.sum_cons] at ha
       have h1 := Ty.varsOn_len t.kids[i] a
       refine ⟨?_, by omega⟩
       rw [eq_r03_vars_4h]
       simp [h, dIdx_map h, Ty.eta, Ty.ag, ih _ (List.getElem_mem h) a sg (by omega), dAdd1 (show i < 9223372036854775807 by omega)])
   have hsz := Ty.size_eq t
   rw [eq_r03_vars, Ty.varsOn_eq]
   simp
   by_cases h6 : t.kind = 6
   ·simp [h6, sp_r03_In l (by omega) t.n]
    by_cases hn : t.n ∈ l
    ·simp [hn, eq_r03_vars_3, loop l (by omega)]
    ·simp [hn, eq_r03_vars_3]
     rw [show encInts l = .list 1 (l.map fun n => .int .i64 n) from rfl, dApp_list (by simp; omega)]
     simp
     have := loop (l ++ [t.n]) (by simp; omega)
     simpa [encInts] using this
   ·simp [h6, eq_r03_vars_3, loop l (by omega)]
theorem sp_r03_Vars (t : Ty) (ht : t.size ≤ lim) : (run cfg).p F_r03_Vars [t.enc] = some (encInts t.vars) := by
 refine call_r03_Vars _ ?_
 rw [eq_r03_Vars]
 have := sp_r03_vars t [] [] (by simpa using ht)
 have e : encInts [] = .list 1 [] := rfl
 rw [e] at this
 simp [Ty.eta, Ty.ag, this, Ty.vars]
theorem sp_l03_count (t : Ty) : ∀ n : Int, t.thin = true → 0 ≤ n → n ≤ 1048576 → ∃ m : Int, (run cfg).p F_l03_count [t.enc, .int .i64 n] = some (.int .i64 m) ∧ 0 ≤ m ∧ m ≤ max (n + 1) 601 := by
 induction t using Ty.ind with
 | h t ih =>
   intro n ht h0 h1
   have hb := t.thin_len ht
   have loop : ∀ m : Int, 0 ≤ m → m ≤ 1048577 → ∃ r : Int, P_l03_count_3h (run cfg) (.int .i64 m) (.int .i64 0) t.enc = some (.int .i64 r) ∧ 0 ≤ r ∧ r ≤ max m 601 := by
    have key : ∀ (k i : Nat) (m : Int), i + k = t.kids.length → 0 ≤ m → m ≤ 1048577 → ∃ r : Int, P_l03_count_3h (run cfg) (.int .i64 m) (.int .i64 i) t.enc = some (.int .i64 r) ∧ 0 ≤ r ∧ r ≤ max m 601 := by
     intro k
     induction k with
     | zero =>
       intro i m hi h0 h1
       rw [eq_l03_count_3h]
       have : ¬ i < t.kids.length := by omega
       exact ⟨m, by simp [this], h0, by omega⟩
     | succ k ihk =>
       intro i m hi h0 h1
       have h : i < t.kids.length := by omega
       rw [eq_l03_count_3h]
       by_cases hm : m ≤ 600
       ·obtain ⟨r, hr, hr0, hr1⟩ := ih _ (List.getElem_mem h) m (Ty.thin_kid ht (List.getElem_mem h)) h0 (by omega)
        obtain ⟨s, hs, hs0, hs1⟩ := ihk (i + 1) r (by omega) hr0 (by omega)
        push_cast at hs
        exact ⟨s, by simp [h, hm, dIdx_map h, Ty.eta, Ty.ag, hr, dAdd1 (show i < 9223372036854775807 by omega), hs], hs0, by omega⟩
       ·exact ⟨m, by simp [h, hm], h0, by omega⟩
    exact fun m h0 h1 => key t.kids.length 0 m (by omega) h0 h1
   obtain ⟨r, hr, hr0, hr1⟩ := loop (n + 1) (by omega) (by omega)
   refine ⟨r, call_l03_count _ _ ?_, hr0, hr1⟩
   rw [eq_l03_count]
   simp
   rw [dAdd (by omega) (by omega)]
   simpa using hr
theorem sp_l03_Heavy1 (t : Ty) (ht : t.thin = true) : ∃ b : Bool, (run cfg).p F_l03_Heavy [.list 3 [t.enc]] = some (.bool b) := by
 obtain ⟨m, h1, h2, h3⟩ := sp_l03_count t 0 ht (by omega) (by omega)
 refine ⟨decide (600 < m), call_l03_Heavy _ ?_⟩
 rw [eq_l03_Heavy, eq_l03_Heavy_3h]
 have e0 : dIdx 3 (.list 3 [t.enc]) (.int .i64 0) = some t.enc := by simp [dIdx]
 simp [e0, Ty.eta, Ty.ag, h1, dAdd (show (-9223372036854775808 : Int) ≤ 0 + 1 by omega) (by omega)]
 rw [eq_l03_Heavy_3h]
 simp
theorem sp_r08_Deep (t : Ty) : ∀ n : Int, -9223372036854775000 ≤ n → n ≤ 1000 → t.thin = true → (run cfg).p F_r08_Deep [t.enc, .int .i64 n] = some (.bool (t.deep n)) := by
 induction t using Ty.ind with
 | h t ih =>
   intro n hn0 hn ht
   have hb := t.thin_len ht
   refine call_r08_Deep _ _ ?_
   rw [eq_r08_Deep, Ty.deep_eq]
   simp
   by_cases h0 : n ≤ 0
   ·simp [h0]
   ·have loop := loop_anyB (l := t.kids) (f := fun k => k.deep (n - 1)) (P := fun i => P_r08_Deep_4h (run cfg) (.int .i64 n) (.int .i64 i) t.enc)
     (by rw [eq_r08_Deep_4h]; simp)
     (fun i h => by
       rw [eq_r08_Deep_4h]
       simp [h, dIdx_map h, Ty.eta, Ty.ag, dBin_sub, wrap_id (show (-9223372036854775808 : Int) ≤ n - 1 by omega) (by omega), ih _ (List.getElem_mem h) (n - 1) (by omega) (by omega) (Ty.thin_kid ht (List.getElem_mem h)), dAdd1 (show i < 9223372036854775807 by omega)])
    simp only [h0, decide_false, Bool.false_or]
    exact loop
theorem sp_word_Key (s : ByteArray) : (run cfg).p F_word_Key [.str s] = some (.bool (keyB s)) := by
 refine call_word_Key _ ?_
 rw [eq_word_Key]
 have e : ∀ l : List UInt8, (s = ⟨l.toArray⟩) ↔ s.data.toList = l := fun l => by
  constructor
  ·rintro rfl; simp
  ·intro h; cases s; simp only [ByteArray.mk.injEq]; exact Array.ext' (by simpa using h)
 simp only [dBin_seql, ob_some', oif_bool]
 simp only [e, keyB, keyL, List.mem_cons, List.not_mem_nil, or_false]
 simp only [decide_eq_true_eq, ite_s, ite_db, Bool.if_true_left, Bool.decide_or, Bool.or_false]
theorem sp_word_inner (c : Int) : (run cfg).p F_word_inner [.int .u8 c] = some (.bool (partB c)) := by
 refine call_word_inner _ ?_
 rw [eq_word_inner]
 simp only [dBin_geq, dBin_leq, dBin_eql, ob_some', ogd_bool, decide_eq_true_eq, partB, lowerB, digitB]
 by_cases h1 : 97 ≤ c <;> by_cases h2 : c ≤ 122 <;> by_cases h3 : 65 ≤ c <;> by_cases h4 : c ≤ 90 <;> by_cases h5 : 48 ≤ c <;> by_cases h6 : c ≤ 57 <;> by_cases h7 : c = 95 <;> simp [h1, h2, h3, h4, h5, h6, h7]
theorem str_big {s : ByteArray} (h : s.size ≤ lim) : (bts s).length < 4294967297 := by rw [bts_len]; exact big h
theorem sp_word_Name (s : ByteArray) (hs : s.size ≤ lim) : (run cfg).p F_word_Name [.str s] = some (.bool (nameB s)) := by
 have hb := str_big hs
 refine call_word_Name _ ?_
 rw [eq_word_Name]
 simp only [dLenS_str, ob_some', dBin_lss, dBin_gtr, ogd_bool, oif_bool, decide_eq_true_eq, nameB, ← bts_len]
 by_cases h1 : ((bts s).length : Int) < 1
 ·have : ¬ (1 ≤ (bts s).length) := by omega
  simp [h1, this]
 ·by_cases h2 : (32 : Int) < ((bts s).length : Int)
  ·have : ¬ ((bts s).length ≤ 32) := by omega
   simp [h1, h2, this]
  ·have h0 : 0 < (bts s).length := by omega
   have e0 := dStr_idx (s := s) (k := .i64) h0
   simp only [Int.natCast_zero, Int.ofNat_zero, Int.cast_ofNat_Int] at e0
   have loop : ∀ (k i : Nat), i + k = (bts s).length → P_word_Name_4h (run cfg) (.str s) (.int .i64 i) = some (.bool (((bts s).drop i).all partB)) := by
    intro k
    induction k with
    | zero =>
      intro i hi
      rw [eq_word_Name_4h]
      have : ¬ i < (bts s).length := by omega
      simp [← bts_len, this, List.drop_of_length_le (show (bts s).length ≤ i by omega)]
    | succ k ih =>
      intro i hi
      have h : i < (bts s).length := by omega
      rw [eq_word_Name_4h]
      have := ih (i + 1) (by omega)
      push_cast at this
      have hlt : (i : Int) < (s.size : Int) := by rw [← bts_len]; omega
      rw [List.drop_eq_getElem_cons h, List.all_cons]
      simp only [dLenS_str, ob_some', dBin_lss, hlt, decide_true, oif_bool, if_true, dStr_idx h, sp_word_inner, dUn_not, dAdd1 (show i < 9223372036854775807 by omega)]
      push_cast
      rw [this]
      cases partB (bts s)[i] <;> rfl
   have l1 := loop ((bts s).length - 1) 1 (by omega)
   simp only [Int.natCast_one, Int.ofNat_one, Int.cast_ofNat_Int] at l1
   have g0 : (bts s).getD 0 0 = (bts s)[0] := by simp [List.getD_eq_getElem?_getD, h0]
   have d0 : bts s = (bts s)[0] :: (bts s).drop 1 := by
    have := List.drop_eq_getElem_cons h0
    simpa using this
   have a1 : (1 ≤ (bts s).length) := by omega
   have a2 : ((bts s).length ≤ 32) := by omega
   have e0' : dStrIdx (.str s) (.int .i64 0) = some (.int .u8 (bts s)[0]) := e0
   simp only [h1, h2, if_false, e0', ob_some', dBin_lss, dBin_gtr, ogd_bool, decide_eq_true_eq, sp_word_Key, oif_bool, g0, a1, a2, decide_true, Bool.true_and]
   by_cases h3 : (bts s)[0] < 97
   ·have : lowerB (bts s)[0] = false := by simp [lowerB]; omega
    simp [h3, this]
   ·by_cases h4 : (122 : Int) < (bts s)[0]
    ·have : lowerB (bts s)[0] = false := by simp [lowerB]; omega
     simp [h3, h4, this]
    ·have h5 : lowerB (bts s)[0] = true := by simp [lowerB]; omega
     have h6 : partB (bts s)[0] = true := by simp [partB, h5]
     have h7 : (bts s).all partB = ((bts s).drop 1).all partB := by
      conv => lhs; rw [d0]
      simp [h6]
     cases hk : keyB s
     ·simp only [h3, h4, if_false, Bool.false_eq_true, h5, h7, Bool.true_and, Bool.not_false, Bool.and_true]
      exact l1
     ·simp [h3, h4]
theorem nil_str : (.str ⟨#[]⟩ : DV) = .str nil8 := rfl
theorem sp_tree_onePat (p : Pat) (hp : p.texts) : (run cfg).p F_tree_onePat [p.enc] = some (.bool p.one) := by
 obtain ⟨hn, hs⟩ := hp
 have h24 : ∀ (t4 : Int) (a b c g : DV) (nm : ByteArray) (n : Int) (s : ByteArray), P_tree_onePat_24 (run cfg) (.int .i64 t4) p.enc a b c (.str nm) (.int .i64 n) (.str s) g =
  some (.bool (decide ((p.kids.length : Int) = t4) && decide (nm = p.name) && decide (n = p.n) && decide (s = p.s))) := by
  intro t4 a b c g nm n s
  rw [eq_tree_onePat_24]
  simp only [Pat.proj6, Pat.proj3, Pat.proj4, Pat.proj5, dLen_list, List.length_map, ob_some', dBin_eql, dBin_seql, ogd_bool, decide_eq_true_eq]
  by_cases h1 : (p.kids.length : Int) = t4 <;> by_cases h2 : nm = p.name <;> by_cases h3 : n = p.n <;> simp [h1, h2, h3]
 refine call_tree_onePat _ ?_
 rw [eq_tree_onePat]
 have hs' : dBin .gtr (.int .i64 (p.s.size : Int)) (.int .i64 200) = some (.bool (decide (200 < p.s.size))) := by
  rw [dBin_gtr]; congr 2; rw [decide_eq_decide]; omega
 simp only [isAggN_Pat, og_true', Pat.pj, isCell_int, isCell_str, isCell_list, dBin_eql, dBin_neq, ob_some', oif_bool, ogd_bool, sp_word_Name p.name (by unfold lim; omega), dUn_not, dLenS_str, hs', h24, nil_str]
 unfold Pat.one
 by_cases k1 : p.kind = 1
 ·simp [k1, eq_comm]
 by_cases k6 : p.kind = 6
 ·simp [k6, eq_comm]
 by_cases k8 : p.kind = 8
 ·simp [k8, eq_comm]
 by_cases k2 : p.kind = 2
 ·cases hnm : nameB p.name <;> simp [k2, hnm, eq_comm]
 by_cases k3 : p.kind = 3
 ·simp [k3, eq_comm]
 by_cases k4 : p.kind = 4
 ·by_cases n0 : p.n = 0
  ·simp [k4, n0, eq_comm]
  ·by_cases n1 : p.n = 1 <;> simp [k4, n0, n1, eq_comm]
 by_cases k5 : p.kind = 5
 ·by_cases h : 200 < p.s.size
  ·have : ¬ p.s.size ≤ 200 := by omega
   simp [k5, h, this]
  ·have : p.s.size ≤ 200 := by omega
   simp [k5, h, this, eq_comm]
 have h2 : decide (2 = (p.kids.length : Int)) = decide (2 = p.kids.length) := by rw [decide_eq_decide]; omega
 by_cases k7 : p.kind = 7
 ·simp [k7, eq_comm, h2]
 by_cases k9 : p.kind = 9
 ·simp [k9, eq_comm, h2]
 simp [k1, k2, k3, k4, k5, k6, k7, k8, k9]
def hasS (l : List ByteArray) (n : ByteArray) : Bool := l.any fun x => decide (x = n)
theorem hasS_iff {l : List ByteArray} {n : ByteArray} : hasS l n = true ↔ n ∈ l := by simp [hasS]
def cntS (es : List (DV × DV)) (s : ByteArray) : DV := (mGet es (.str s)).getD (.int .i64 0)
def cpSg (a b c e : SObj) (n : Int) (es : List (DV × DV)) : List SObj := [a, .box [(.int .i64 n, .val)], .map true es, .box [(.undef, .map 2)], e]
theorem cp_end (t0 t6 : DV) (a b c e : SObj) (n : Int) (es : List (DV × DV)) : X_tree_CheckPat_r0 (run cfg) t0 t6 .ret (cpSg a b c e n es) = some (.int .i64 n) := by
 rw [eq_X_tree_CheckPat_r0_ret]
 rfl
theorem cp_norm (t0 t6 : DV) (a b c e : SObj) (n : Int) (es : List (DV × DV)) : X_tree_CheckPat_r0 (run cfg) t0 t6 .normal (cpSg a b c e n es) = some (.int .i64 0) := by
 rw [eq_X_tree_CheckPat_r0_normal]
 rfl
theorem cp_rounds (t0 t6 : DV) (a b c e : SObj) : ∀ (ps : List Pat) (pre : List ByteArray) (es : List (DV × DV)), (∀ q ∈ ps, q.texts) → pre.Nodup → (∀ s, cntS es s = .int .i64 (if hasS pre s = true then 1 else 0)) →
 I_tree_CheckPat_r0 (run cfg) t0 t6 (ps.map Pat.enc) (cpSg a b c e 0 es) = some (.int .i64 (if ps.all Pat.one = true ∧ (pre ++ ps.flatMap nmOf).Nodup then 0 else 1))
 | [], pre, es, _, hn, _ => by
   rw [List.map_nil, I_tree_CheckPat_r0_nil, cp_norm]
   simp [hn]
 | q :: ps, pre, es, hx, hn, hc => by
   rw [List.map_cons, I_tree_CheckPat_r0_cons, eq_B_tree_CheckPat_r0]
   have hq := hx q (List.mem_cons_self ..)
   simp only [isAggN_Pat, og_true', Pat.pj, Pat.eta, Pat.ag, sp_tree_onePat q hq, ob_some', dUn_not, ogd_bool, dBin_eql]
   have sg1 : sgBox (cpSg a b c e 0 es) 1 = some [(.int .i64 0, .val)] := rfl
   have sg3 : sgBox (cpSg a b c e 0 es) 3 = some [(.undef, .map 2)] := rfl
   have set1 : (cpSg a b c e 0 es).set 1 (.box ([((.int .i64 0 : DV), Meta.val)].set 0 (.int .i64 1, .val))) = cpSg a b c e 1 es := rfl
   have g0 : [((.int .i64 0 : DV), Meta.val)][0]? = some (.int .i64 0, .val) := rfl
   have cm : cellMap [((.undef : DV), Meta.map 2)] 0 = some 2 := rfl
   have sm : sgMap (cpSg a b c e 0 es) 2 = some (true, es) := rfl
   cases h1 : q.one
   ·simp only [Bool.not_false, if_true, sg1, ob_some', g0, set1, cp_end]
    simp [h1]
   ·simp only [Bool.not_true, Bool.false_eq_true, if_false]
    have rest : ∀ (pre' : List ByteArray) (es' : List (DV × DV)), pre'.Nodup → (∀ s, cntS es' s = .int .i64 (if hasS pre' s = true then 1 else 0)) →
     I_tree_CheckPat_r0 (run cfg) t0 t6 (ps.map Pat.enc) (cpSg a b c e 0 es') = some (.int .i64 (if ps.all Pat.one = true ∧ (pre' ++ ps.flatMap nmOf).Nodup then 0 else 1)) :=
     fun pre' es' h h' => cp_rounds t0 t6 a b c e ps pre' es' (fun x hx' => hx x (List.mem_cons_of_mem _ hx')) h h'
    rw [eq_tree_CheckPat_6]
    simp only [Pat.proj0, Pat.proj3, dBin_eql, ob_some', oif_bool, decide_eq_true_eq]
    by_cases h2 : q.kind = 2
    ·have hcq := hc q.name
     unfold cntS at hcq
     have sm' : (cpSg a b c e 0 es).set 2 (.map true (mSet es (.str q.name) (.int .i64 1))) = cpSg a b c e 0 (mSet es (.str q.name) (.int .i64 1)) := rfl
     simp only [h2, if_true, sg3, ob_some', cm, isKey_str, Bool.and_true, og_true', sm, BEq.rfl, hcq, dBin_gtr, oif_bool, decide_eq_true_eq]
     by_cases h3' : hasS pre q.name = true
     ·have h3 := hasS_iff.1 h3'
      simp only [h3', if_true, show (0 : Int) < 1 by omega, decide_true, sg1, ob_some', g0, set1, cp_end]
      have : ¬ (pre ++ (q :: ps).flatMap nmOf).Nodup := by
       simp only [List.flatMap_cons, nmOf, h2, if_true, List.singleton_append, List.nodup_append]
       rintro ⟨-, -, h⟩
       exact h q.name h3 q.name (List.mem_cons_self ..) rfl
      rw [if_neg (fun h => this h.2)]
     ·have h3 : q.name ∉ pre := fun h => h3' (hasS_iff.2 h)
      simp only [h3', if_false, show ¬ (0 : Int) < 0 by omega, decide_false, Bool.false_eq_true]
      rw [dAdd (by omega) (by omega)]
      simp only [ob_some', Int.zero_add]
      rw [sm', rest (pre ++ [q.name]) _ (by rw [List.nodup_append]; refine ⟨hn, by simp, ?_⟩; rintro x hx' y hy rfl; simp at hy; exact h3 (hy ▸ hx')) ?_]
      ·simp [List.flatMap_cons, nmOf, h2, h1]
      ·intro s
       unfold cntS
       rw [mGet_set]
       have := hc s
       unfold cntS at this
       by_cases h4 : q.name = s
       ·have : hasS (pre ++ [q.name]) s = true := hasS_iff.2 (by simp [h4])
        rw [if_pos h4, if_pos this]
        rfl
       ·have e : hasS (pre ++ [q.name]) s = hasS pre s := by simp [hasS, h4]
        simp only [if_neg h4, e]
        exact this
    ·simp only [h2, if_false]
     rw [rest pre es hn hc]
     simp [List.flatMap_cons, nmOf, h2, h1]
theorem sp_tree_CheckPat (p : Pat) (ht : p.thin = true) (hx : p.txt) : (run cfg).p F_tree_CheckPat [p.enc] = some (.int .i64 (if p.right = true then 0 else 1)) := by
 refine call_tree_CheckPat _ ?_
 rw [eq_tree_CheckPat]
 simp only [isAggN_Pat, og_true', Pat.pj, Pat.eta, Pat.ag]
 rw [eq_tree_CheckPat_r0]
 obtain ⟨n, hn⟩ := flat_Pat p ht
 rw [Pat.enc_eq] at hn
 simp only [sgBox, List.getElem?_cons_succ, List.getElem?_cons_zero, ob_some', allDat, og_true', flatD_of hn]
 have := cp_rounds p.enc p.enc (.box [(.int .i64 p.kind, .val), (.int .i64 p.lo, .val), (.int .i64 p.hi, .val), (.str p.name, .val), (.int .i64 p.n, .val), (.str p.s, .val), (.list 7 (p.kids.map Pat.enc), .val)])
  (.arr 1 []) (.arr 1 []) (.arr 1 []) p.subs [] [] (fun q hq => hx q hq) (by simp) (fun s => rfl)
 refine this.trans ?_
 congr 2
 have e : p.right = true ↔ (p.subs.all Pat.one = true ∧ (([] : List ByteArray) ++ p.subs.flatMap nmOf).Nodup) := by
  unfold Pat.right Pat.names
  rw [Pat.pat_subs, Pat.namesOn_subs]
  simp
 by_cases h : p.right = true
 ·rw [if_pos h, if_pos (e.1 h)]
 ·rw [if_neg h, if_neg (fun h' => h (e.2 h'))]
theorem ite_andB (a b : Bool) : (if a = true then DV.bool b else DV.bool false) = DV.bool (a && b) := by cases a <;> rfl
def shapeD (k : Int) (np : Nat) : DV := .agg [.bool (kName k), .bool (kArg k), .bool (kN k), .bool (kS k), .bool (kOp k), .bool (kAt k), .bool (kVars k), .bool (kArgs k), .bool (kPats k), .bool (kA k), .bool (kB k), .bool (kLabel k), .int .i64 (kKids k np)]
theorem sp_term_shapeOf (t : Tm) (ht : t.fit1) : ∃ d, (run cfg).p F_term_shapeOf [t.enc] = some (.tup [d, .bool (kOk t.kind t.pats.length)]) ∧ (kOk t.kind t.pats.length = true → d = shapeD t.kind t.pats.length) ∧ isAggN 13 d = true := by
 have hp := big (Nat.le_of_lt ht.pats)
 suffices h : ∃ d, P_term_shapeOf (run cfg) t.enc = some (.tup [d, .bool (kOk t.kind t.pats.length)]) ∧ (kOk t.kind t.pats.length = true → d = shapeD t.kind t.pats.length) ∧ isAggN 13 d = true by
  obtain ⟨d, h1, h2⟩ := h
  exact ⟨d, call_term_shapeOf _ h1, h2⟩
 rw [eq_term_shapeOf]
 have fl : ∀ {a b c d e f g h i j k l : Bool} {n : Int}, isAggN 13 (.agg [.bool a, .bool b, .bool c, .bool d, .bool e, .bool f, .bool g, .bool h, .bool i, .bool j, .bool k, .bool l, .int .i64 n]) = true := rfl
 by_cases k14 : t.kind = 14
 ·have h1 : dBin .add (.int .i64 (t.pats.length : Int)) (.int .i64 1) = some (.int .i64 ((t.pats.length : Int) + 1)) := dAdd (by omega) (by omega)
  simp [k14, h1, kOk, shapeD, kName, kArg, kN, kS, kOp, kAt, kVars, kArgs, kPats, kA, kB, kLabel, kKids, fl]
 by_cases k1 : t.kind = 1
 ·simp [k1, kOk, shapeD, kName, kArg, kN, kS, kOp, kAt, kVars, kArgs, kPats, kA, kB, kLabel, kKids, fl]
 by_cases k2 : t.kind = 2
 ·simp [k2, kOk, shapeD, kName, kArg, kN, kS, kOp, kAt, kVars, kArgs, kPats, kA, kB, kLabel, kKids, fl]
 by_cases k3 : t.kind = 3
 ·simp [k3, kOk, shapeD, kName, kArg, kN, kS, kOp, kAt, kVars, kArgs, kPats, kA, kB, kLabel, kKids, fl]
 by_cases k4 : t.kind = 4
 ·simp [k4, kOk, shapeD, kName, kArg, kN, kS, kOp, kAt, kVars, kArgs, kPats, kA, kB, kLabel, kKids, fl]
 by_cases k5 : t.kind = 5
 ·simp [k5, kOk, shapeD, kName, kArg, kN, kS, kOp, kAt, kVars, kArgs, kPats, kA, kB, kLabel, kKids, fl]
 by_cases k6 : t.kind = 6
 ·simp [k6, kOk, shapeD, kName, kArg, kN, kS, kOp, kAt, kVars, kArgs, kPats, kA, kB, kLabel, kKids, fl]
 by_cases k7 : t.kind = 7
 ·simp [k7, kOk, shapeD, kName, kArg, kN, kS, kOp, kAt, kVars, kArgs, kPats, kA, kB, kLabel, kKids, fl]
 by_cases k8 : t.kind = 8
 ·simp [k8, kOk, shapeD, kName, kArg, kN, kS, kOp, kAt, kVars, kArgs, kPats, kA, kB, kLabel, kKids, fl]
 by_cases k9 : t.kind = 9
 ·simp [k9, kOk, shapeD, kName, kArg, kN, kS, kOp, kAt, kVars, kArgs, kPats, kA, kB, kLabel, kKids, fl]
 by_cases k10 : t.kind = 10
 ·simp [k10, kOk, shapeD, kName, kArg, kN, kS, kOp, kAt, kVars, kArgs, kPats, kA, kB, kLabel, kKids, fl]
 by_cases k11 : t.kind = 11
 ·simp [k11, kOk, shapeD, kName, kArg, kN, kS, kOp, kAt, kVars, kArgs, kPats, kA, kB, kLabel, kKids, fl]
 by_cases k12 : t.kind = 12
 ·simp [k12, kOk, shapeD, kName, kArg, kN, kS, kOp, kAt, kVars, kArgs, kPats, kA, kB, kLabel, kKids, fl]
 by_cases k13 : t.kind = 13
 ·simp [k13, kOk, shapeD, kName, kArg, kN, kS, kOp, kAt, kVars, kArgs, kPats, kA, kB, kLabel, kKids, fl]
 by_cases k15 : t.kind = 15
 ·simp [k15, kOk, shapeD, kName, kArg, kN, kS, kOp, kAt, kVars, kArgs, kPats, kA, kB, kLabel, kKids, fl]
 by_cases k16 : t.kind = 16
 ·simp [k16, kOk, shapeD, kName, kArg, kN, kS, kOp, kAt, kVars, kArgs, kPats, kA, kB, kLabel, kKids, fl]
 ·have hk : kOk t.kind t.pats.length = false := by
   unfold kOk
   rw [Bool.eq_false_iff]
   intro h
   simp only [Bool.and_eq_true, decide_eq_true_eq] at h
   omega
  simp [hk, k1, k2, k3, k4, k5, k6, k7, k8, k9, k10, k11, k12, k13, k14, k15, k16, fl]
theorem sp_term_none (t : Ty) : (run cfg).p F_term_none [t.enc] = some (.bool t.none) := by
 refine call_term_none _ ?_
 rw [eq_term_none]
 simp [Ty.none]
 by_cases h1 : t.kind = 0 <;> by_cases h2 : t.n = 0 <;> simp [h1, h2]
theorem sp_term_typed (h : Bool) (t : Ty) (ht : t.thin = true) : (run cfg).p F_term_typed [.bool h, t.enc] = some (.bool (typedB h t)) := by
 refine call_term_typed _ _ ?_
 rw [eq_term_typed]
 cases h
 ·simp [Ty.eta, Ty.ag, sp_term_none, typedB]
 ·simp [Ty.eta, Ty.ag, sp_typ_Check t ht, typedB]
theorem sp_term_named (h : Bool) (s : ByteArray) (hs : s.size ≤ 4294967000) : (run cfg).p F_term_named [.bool h, .str s] = some (.bool (namedB h s)) := by
 refine call_term_named _ _ ?_
 rw [eq_term_named]
 cases h
 ·simp [namedB, nil_str]
 ·simp [namedB, sp_word_Name s (by unfold lim; omega)]
theorem sp_term_lists (t : Tm) (ht : t.fit1) : (run cfg).p F_term_lists [t.enc] = some (.bool t.lists) := by
 have hv := big (Nat.le_of_lt ht.vars)
 have ha := big (Nat.le_of_lt ht.args)
 have hp := big (Nat.le_of_lt ht.pats)
 refine call_term_lists _ ?_
 have l3 := loop_allB (l := t.pats) (f := Pat.right) (P := fun i => P_term_lists_14h (run cfg) (.list 7 (t.pats.map Pat.enc)) (.int .i64 t.pats.length) (.int .i64 i))
  (by rw [eq_term_lists_14h]; simp)
  (fun i h => by
    rw [eq_term_lists_14h]
    have f := ht.pat _ (List.getElem_mem h)
    simp [h, dIdx_map h, Pat.eta, Pat.ag, sp_tree_CheckPat _ (Pat.fit_thin f) f.txt, dAdd1 (show i < 9223372036854775807 by omega)]
    cases t.pats[i].right <;> rfl)
 have l2 := loop_all (l := t.args) (f := Ty.right) (P := fun i => P_term_lists_8h (run cfg) (.list 3 (t.args.map Ty.enc)) (.int .i64 t.args.length) (.int .i64 i) t.enc) (y := .bool (t.pats.all Pat.right)) (n := .bool false)
  (by rw [eq_term_lists_8h]; simp [l3])
  (fun i h => by
    rw [eq_term_lists_8h]
    simp [h, dIdx_map h, Ty.eta, Ty.ag, sp_typ_Check _ (ht.arg1 _ (List.getElem_mem h)), dAdd1 (show i < 9223372036854775807 by omega)]
    cases t.args[i].right <;> rfl)
 have l1 := loop_all (l := t.vars) (f := fun v => decide (0 ≤ v) && decide (v ≤ 1048576)) (P := fun i => P_term_lists_2h (run cfg) (encInts t.vars) (.int .i64 t.vars.length) (.int .i64 i) t.enc) (y := .bool (t.args.all Ty.right && t.pats.all Pat.right)) (n := .bool false)
  (by rw [eq_term_lists_2h]; simp only [dBin_lss, Int.lt_irrefl, decide_false, ob_some', oif_bool, Bool.false_eq_true, if_false, Tm.proj17, dLen_list, List.length_map, l2, ite_andB])
  (fun i h => by
    rw [eq_term_lists_2h]
    simp [h, dIdx_ints h, dAdd1 (show i < 9223372036854775807 by omega)]
    by_cases h1 : t.vars[i] < 0
    ·simp [h1, show ¬ 0 ≤ t.vars[i] by omega]
    ·by_cases h2 : 1048576 < t.vars[i]
     ·simp [h1, h2, show ¬ t.vars[i] ≤ 1048576 by omega]
     ·simp [h1, h2, show 0 ≤ t.vars[i] by omega, show t.vars[i] ≤ 1048576 by omega])
 rw [eq_term_lists]
 simp only [isAggN_Tm, og_true', Tm.proj10, dLen_ints, ob_some', l1, ite_andB, Tm.lists, Bool.and_assoc]
theorem sp_term_one (t : Tm) (ht : t.fit1) : (run cfg).p F_term_one [t.enc] = some (.bool t.one) := by
 refine call_term_one _ ?_
 obtain ⟨d, h1, h2, h3⟩ := sp_term_shapeOf t ht
 rw [eq_term_one]
 have x0 : ∀ b, dExt 0 (.tup [d, .bool b]) = some d := fun _ => rfl
 have x1 : ∀ b, dExt 1 (.tup [d, .bool b]) = some (.bool b) := fun _ => rfl
 simp only [isAggN_Tm, og_true', Tm.pj, Tm.eta, Tm.ag, Ty.eta, Ty.ag, h1, x0, x1, ob_some', h3, dUn_not, ogd_bool]
 cases hk : kOk t.kind t.pats.length
 ·simp [Tm.one, hk]
 rw [h2 hk]
 have p0 : proj 0 (shapeD t.kind t.pats.length) = .bool (kName t.kind) := rfl
 have p1 : proj 1 (shapeD t.kind t.pats.length) = .bool (kArg t.kind) := rfl
 have p2 : proj 2 (shapeD t.kind t.pats.length) = .bool (kN t.kind) := rfl
 have p3 : proj 3 (shapeD t.kind t.pats.length) = .bool (kS t.kind) := rfl
 have p4 : proj 4 (shapeD t.kind t.pats.length) = .bool (kOp t.kind) := rfl
 have p5 : proj 5 (shapeD t.kind t.pats.length) = .bool (kAt t.kind) := rfl
 have p6 : proj 6 (shapeD t.kind t.pats.length) = .bool (kVars t.kind) := rfl
 have p7 : proj 7 (shapeD t.kind t.pats.length) = .bool (kArgs t.kind) := rfl
 have p8 : proj 8 (shapeD t.kind t.pats.length) = .bool (kPats t.kind) := rfl
 have p9 : proj 9 (shapeD t.kind t.pats.length) = .bool (kA t.kind) := rfl
 have p10 : proj 10 (shapeD t.kind t.pats.length) = .bool (kB t.kind) := rfl
 have p11 : proj 11 (shapeD t.kind t.pats.length) = .bool (kLabel t.kind) := rfl
 have p12 : proj 12 (shapeD t.kind t.pats.length) = .int .i64 (kKids t.kind t.pats.length) := rfl
 have h12 : P_term_one_12 (run cfg) t.enc (shapeD t.kind t.pats.length) = some (.bool t.one5) := by
  rw [eq_term_one_12]
  simp only [p6, p7, p8, Tm.pj, Tm.eta, Tm.ag, sp_term_lists t ht, dLen_list, dLen_ints, List.length_map, ob_some', dUn_not, ogd_bool, oif_bool, dBin_gtr, Tm.one5]
  cases kVars t.kind <;> cases kArgs t.kind <;> cases kPats t.kind <;> by_cases v : t.vars.length = 0 <;> by_cases a : t.args.length = 0 <;> by_cases p : t.pats.length = 0 <;> simp [v, a, p, Nat.pos_iff_ne_zero]
 have h10 : P_term_one_10 (run cfg) t.enc (shapeD t.kind t.pats.length) = some (.bool t.one4) := by
  rw [eq_term_one_10]
  simp only [p11, Tm.proj8, Tm.proj9, h12, ob_some', dUn_not, ogd_bool, oif_bool, dBin_gtr, dBin_lss, dBin_neq, Tm.one4]
  by_cases a : t.label < 0
  ·have a' : ¬ 0 ≤ t.label := by omega
   cases kLabel t.kind <;> cases t.neg <;> by_cases v : t.label = 0 <;> simp [a, a', v]
  ·have a' : 0 ≤ t.label := by omega
   by_cases p : 1048576 < t.label
   ·have p' : ¬ t.label ≤ 1048576 := by omega
    cases kLabel t.kind <;> cases t.neg <;> by_cases v : t.label = 0 <;> simp [a, a', p, p', v]
   ·have p' : t.label ≤ 1048576 := by omega
    cases kLabel t.kind <;> cases t.neg <;> by_cases v : t.label = 0 <;> simp [a, a', p, p', v]
 have h8 : P_term_one_8 (run cfg) t.enc (shapeD t.kind t.pats.length) = some (.bool t.one3) := by
  rw [eq_term_one_8]
  simp only [p4, Tm.proj7, h10, ob_some', dUn_not, ogd_bool, oif_bool, dBin_gtr, dBin_lss, dBin_neq, Tm.one3]
  cases kOp t.kind
  ·by_cases v : t.op = 0 <;> simp [v]
  ·by_cases a : t.op < 1
   ·simp [a, show ¬ 1 ≤ t.op by omega]
   ·by_cases p : 7 < t.op
    ·simp [a, p, show ¬ t.op ≤ 7 by omega]
    ·simp [a, p, show 1 ≤ t.op by omega, show t.op ≤ 7 by omega]
 have hs : ∀ n : Nat, dBin .gtr (.int .i64 (n : Int)) (.int .i64 200) = some (.bool (decide (200 < n))) := fun n => by
  rw [dBin_gtr]; congr 2; rw [decide_eq_decide]; omega
 have h6 : P_term_one_6 (run cfg) t.enc (shapeD t.kind t.pats.length) = some (.bool t.one2) := by
  rw [eq_term_one_6]
  simp only [p3, p5, Tm.proj6, Tm.proj1, Tm.proj2, h8, ob_some', dUn_not, ogd_bool, oif_bool, dLenS_str, hs, nil_str, dBin_sneq, dEqA_two, Tm.one2]
  generalize t.s.size = z
  by_cases a : 200 < z
  ·have : ¬ z ≤ 200 := by omega
   cases kS t.kind <;> by_cases v : t.s = nil8 <;> simp [a, v, this]
  ·have : z ≤ 200 := by omega
   cases kS t.kind <;> cases kAt t.kind <;> by_cases v : t.s = nil8 <;> by_cases x : t.lo = 0 <;> by_cases y : t.hi = 0 <;> simp [a, v, x, y, this]
 have h4 : P_term_one_4 (run cfg) t.enc (shapeD t.kind t.pats.length) = some (.bool t.one1) := by
  rw [eq_term_one_4]
  simp only [p2, Tm.proj5, Tm.proj0, h6, ob_some', dUn_not, ogd_bool, oif_bool, dBin_neq, dBin_eql, Tm.one1]
  cases kN t.kind <;> by_cases v : t.kind = 3 <;> by_cases x : t.n = 0 <;> by_cases y : t.n = 1 <;> simp [v, x, y]
 simp only [p0, p1, p9, p10, p12, sp_term_named _ _ ht.name, sp_term_named _ _ ht.arg, sp_term_typed _ _ ht.a, sp_term_typed _ _ ht.b, h4, dLen_list, List.length_map, ob_some', dUn_not, ogd_bool, oif_bool, dBin_neq, Tm.one, hk]
 by_cases v : (t.kids.length : Int) = kKids t.kind t.pats.length <;> cases namedB (kName t.kind) t.name <;> cases namedB (kArg t.kind) t.arg <;> cases typedB (kA t.kind) t.a <;> cases typedB (kB t.kind) t.b <;> simp [v]
theorem sp_term_right (t : Tm) : t.fit → (run cfg).p F_term_right [t.enc] = some (.bool t.right) := by
 induction t using Tm.ind with
 | h t ih =>
   intro ht
   have hk := big (Nat.le_of_lt ht.one.kids)
   refine call_term_right _ ?_
   have loop := loop_allB (l := t.kids) (f := Tm.right) (P := fun i => P_term_right_4h (run cfg) (.list 20 (t.kids.map Tm.enc)) (.int .i64 t.kids.length) (.int .i64 i))
    (by rw [eq_term_right_4h]; simp)
    (fun i h => by
      rw [eq_term_right_4h]
      simp [h, dIdx_map h, Tm.eta, Tm.ag, ih _ (List.getElem_mem h) (ht.kid (List.getElem_mem h)), dAdd1 (show i < 9223372036854775807 by omega)]
      cases t.kids[i].right <;> rfl)
   rw [eq_term_right, Tm.right_eq]
   simp [Tm.eta, Tm.ag, sp_term_one t ht.one, loop]
   cases t.one <;> simp
theorem Ty.mk_agg (k n : Int) (ks : List Ty) : DV.agg [.int .i64 k, .int .i64 n, .list 3 (ks.map Ty.enc)] = (Ty.mk k n ks).enc := (Ty.enc_eq (.mk k n ks)).symm
theorem sp_l11_Small (ts : List Ty) (hl : ts.length ≤ lim) (h : ∀ t ∈ ts, t.size ≤ lim) : ∃ b : Bool, (run cfg).p F_l11_Small [.list 3 (ts.map Ty.enc)] = some (.bool b) := by
 have hb := big hl
 have loop : ∀ (n j : Nat), j + n = ts.length → ∃ b : Bool, P_l11_Small_2h (run cfg) (.list 3 (ts.map Ty.enc)) (.int .i64 j) = some (.bool b) := by
  intro n
  induction n with
  | zero =>
    intro j hj
    refine ⟨true, ?_⟩
    have : ¬ j < ts.length := by omega
    rw [eq_l11_Small_2h]
    simp [this]
  | succ n ih =>
    intro j hj
    have hj' : j < ts.length := by omega
    obtain ⟨b, hb'⟩ := ih (j + 1) (by omega)
    have hsz := h _ (List.getElem_mem hj')
    have hth := Ty.thin_of_size hsz
    obtain ⟨c, hc⟩ := sp_l03_Heavy1 ts[j] hth
    have hd := sp_r08_Deep ts[j] 60 (by omega) (by omega) hth
    have hv := sp_r03_Vars ts[j] hsz
    push_cast at hb'
    rw [eq_l11_Small_2h]
    cases c
    ·cases hdd : ts[j].deep 60
     ·by_cases hq : (8 : Int) < (ts[j].vars.length : Int)
      ·exact ⟨false, by simp [hj', dIdx_map hj', Ty.eta, Ty.ag, hc, hd, hdd, hv, hq]⟩
      ·exact ⟨b, by simp [hj', dIdx_map hj', Ty.eta, Ty.ag, hc, hd, hdd, hv, hq, dAdd1 (show j < 9223372036854775807 by omega), hb']⟩
     ·exact ⟨false, by simp [hj', dIdx_map hj', Ty.eta, Ty.ag, hc, hd, hdd]⟩
    ·exact ⟨false, by simp [hj', dIdx_map hj', Ty.eta, Ty.ag, hc]⟩
 obtain ⟨b, h1⟩ := loop ts.length 0 (by omega)
 refine ⟨b, call_l11_Small _ ?_⟩
 rw [eq_l11_Small]
 exact h1
theorem sp_r08_Put (l : List (Int × Ty)) (hl : l.length ≤ lim) (t : Ty) : t.right = true → (run cfg).p F_r08_Put [t.enc, encBnds l] = some (t.put l).enc := by
 have hb := big hl
 induction t using Ty.ind with
 | h t ih =>
   intro ht
   have hn := t.thin_len (Ty.thin_of_right ht)
   refine call_r08_Put _ _ ?_
   rw [eq_r08_Put, Ty.put_eq]
   by_cases h6 : t.kind = 6
   ·have loop : ∀ (m i : Nat), i + m = l.length → P_r08_Put_3h (run cfg) (encBnds l) (.int .i64 i) t.enc = some ((look (l.drop i) t.n).getD t).enc := by
     intro m
     induction m with
     | zero =>
       intro i hi
       have : ¬ i < l.length := by omega
       rw [eq_r08_Put_3h, List.drop_of_length_le (by omega)]
       simp [this, look, Ty.eta, Ty.ag]
     | succ m ihm =>
       intro i hi
       have h : i < l.length := by omega
       have nx := ihm (i + 1) (by omega)
       push_cast at nx
       have e1 : dIdx 4 (encBnds l) (.int .i64 (i : Int)) = some (encBnd l[i]) := dIdx_map h
       rw [eq_r08_Put_3h, List.drop_eq_getElem_cons h]
       by_cases e : l[i].1 = t.n
       ·simp only [look, List.find?_cons, e, decide_true]
        simp [h, e1, e, Ty.eta, Ty.ag]
       ·simp only [look, List.find?_cons, e, decide_false] at nx ⊢
        simp [h, e1, e, dAdd1 (show i < 9223372036854775807 by omega), nx]
    have l0 := loop l.length 0 (by omega)
    simp only [Int.natCast_zero, Int.ofNat_zero, Int.cast_ofNat_Int, List.drop_zero] at l0
    simp [h6, l0]
   ·have loop := loop_fold (l := t.kids) (P := fun j (a : List Ty) => P_r08_Put_10h (run cfg) (encBnds l) (.int .i64 j) t.enc (.int .i64 t.kind) (.list 3 (a.map Ty.enc)))
     (g := fun a k => a ++ [k.put l]) (fin := fun a => some (Ty.mk t.kind 0 a).enc) (I := fun j a => a.length = j)
     (fun a _ => by rw [eq_r08_Put_10h]; simp [Ty.mk_agg])
     (fun j h a ha => by
       refine ⟨?_, by simp [ha]⟩
       rw [eq_r08_Put_10h]
       have := dApp_map (e := Ty.enc) (sz := 3) (l := a) (x := t.kids[j].put l) (by unfold lim; omega)
       simp [h, dIdx_map h, Ty.eta, Ty.ag, ih _ (List.getElem_mem h) (Ty.right_kid ht (List.getElem_mem h)), this, dAdd1 (show j < 9223372036854775807 by omega)]) [] rfl
    have e : ∀ (m : List Ty) (a : List Ty), m.foldl (fun a k => a ++ [k.put l]) a = a ++ m.map (Ty.put l) := by
     intro m
     induction m with
     | nil => intro a; simp
     | cons x m ih => intro a; simp [ih]
    rw [e] at loop
    simp only [List.map_nil, List.nil_append] at loop
    have hn0 : t.n = 0 := by have := (Ty.right_iff.1 ht).2.2.2.1; omega
    simp [h6, hn0, loop]
theorem e4 : errOk 4 := .inl rfl
def zeroTm : Tm := .mk 0 0 0 nil8 nil8 0 nil8 0 0 false [] (.mk 0 0 []) (.mk 0 0 []) [] [] []
theorem zeroTm_agg : DV.agg [.int .i64 0, .int .i64 0, .int .i64 0, .str ⟨#[]⟩, .str ⟨#[]⟩, .int .i64 0, .str ⟨#[]⟩, .int .i64 0, .int .i64 0, .bool false, .list 1 [], .int .i64 0, .int .i64 0, .list 3 [], .int .i64 0, .int .i64 0, .list 3 [], .list 3 [], .list 7 [], .list 20 []] = zeroTm.enc := by
 rw [Tm.enc_eq]; rfl
theorem sp_r03_None (t : Ty) : (run cfg).p F_r03_None [t.enc] = some (.bool t.none) := by
 refine call_r03_None _ ?_
 rw [eq_r03_None]
 simp [Ty.none]
 by_cases h1 : t.kind = 0 <;> by_cases h2 : t.n = 0 <;> simp [h1, h2]
def noTy : Ty := .mk 0 0 []
noncomputable def fieldsX (t : Ex) : Ex := .mk t.kind 0 0 (if eName t.kind = true then t.name else nil8) (if eArg t.kind = true then t.arg else nil8) (if eN t.kind = true then t.n else 0) (if eS t.kind = true then t.s else nil8) (if eOp t.kind = true then t.op else 0)
 (if eA t.kind = true then t.a else noTy) (if eB t.kind = true then t.b else noTy) (if t.kind = 14 then t.pats else []) []
def manyX (t : Ex) : Int := if 1 ≤ t.kind ∧ t.kind ≤ 16 then eKids t.kind t.pats.length else -1
def Ex.own4 (t : Ex) : Bool :=
 if t.kind = 1 ∨ t.kind = 9 ∨ t.kind = 11 then nameB t.name else if t.kind = 12 then nameB t.name && nameB t.arg
 else if t.kind = 3 then decide (t.n = 0) || decide (t.n = 1) else if t.kind = 4 then decide (t.s.size ≤ 200)
 else if t.kind = 14 then decide (0 < t.pats.length) else if t.kind = 16 then decide (1 ≤ t.op) && decide (t.op ≤ 7) else true
def Ex.own3 (t : Ex) : Bool := (if t.a.none = true then !decide (t.kind = 15) else t.a.closed) && (if t.b.none = true then true else t.b.closed) && t.own4
noncomputable def Ex.own (t : Ex) : Bool := decide (manyX t = (t.kids.length : Int)) && decide (t.name = (fieldsX t).name) && decide (t.arg = (fieldsX t).arg) && decide (t.n = (fieldsX t).n) && decide (t.s = (fieldsX t).s) && decide (t.op = (fieldsX t).op) && decide (t.pats.length = (fieldsX t).pats.length) &&
 decide (t.a = (fieldsX t).a) && decide (t.b = (fieldsX t).b) && t.own3
end Go.Su
