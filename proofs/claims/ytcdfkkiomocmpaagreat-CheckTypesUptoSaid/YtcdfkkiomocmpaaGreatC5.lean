/-
  Parts of the proof, merged: G1, G2, G3, G4, G5, G6, G7, G8, T0, QT50, T50, QT51.
-/
import Derived.Test.YtcdfkkiomocmpaaGreatC3
import Derived.Test.YtcdfkkiomocmpaaGreatC4
set_option linter.unusedVariables false
set_option linter.unusedSimpArgs false
/-
 Equations of the program's functions: by program.
-/
namespace Go.Su
open Go.Proofs
set_option linter.unusedVariables false
noncomputable def P_l19_CheckTypes (R : Orc) (x0 x1 : DV) : Option DV := eP Tryz.f3 fl_l19_CheckTypes R [] (initSt Tryz.f3 [(x0, .val), (x1, .val)] [])
noncomputable def P_l19_CheckTypes_5h (R : Orc) (t1 t5 t6 b2 : DV) (sg : List SObj) : Option DV := hP Tryz.f3 fl_l19_CheckTypes R [true, true, true, false, true, false] (mst 148 [(1, t1), (5, t5), (6, t6)] [(2, (.loc 2 0))] [(2, some (bxs b2 0 20))] sg)
set_option maxRecDepth 100000 in
theorem eq_l19_CheckTypes (R : Orc) (x0 x1 : DV) : P_l19_CheckTypes R x0 x1 =
 (og (isAggN 20 x0) <| ob (R.p F_l17_Heavy [(.list 20 [(ag20 x0)])]) fun d1 => ogd d1 (some (.bool true)) (ob (R.p F_r17_Right [(ag20 x0)]) fun d2 => ob (dUn .not d2) fun d3 => ogd d3 (some (.bool true)) (ob (dLen x1) fun d4 => ob (dBin .gtr d4 (.int .i64 8)) fun d5 => ogd d5 (some (.bool true)) (ob (R.p F_r17_TameTerm [(ag20 x0)]) fun d6 => ob (dUn .not d6) fun d7 => oif d7 (some (.bool true)) (ob (R.r F_l19_vars [((ag20 x0), .val), ((.list 1 []), .own)] []) fun q8 => P_l19_CheckTypes_5h R x1 (q8.1.getD 0 .undef) (.int .i64 0) x0 q8.2)) none) none) none) := evP_of [] (by kernel_rfl)
set_option maxRecDepth 100000 in
theorem eq_l19_CheckTypes_5h (R : Orc) (t1 t5 t6 b2 : DV) (sg : List SObj) : P_l19_CheckTypes_5h R t1 t5 t6 b2 sg =
 (ob (dLen t1) fun d1 => ob (dBin .lss t6 d1) fun d2 => oif d2 (ob (dIdx 4 t1 t6) fun d3 => ob (dBin .lss (proj 0 d3) (.int .i64 0)) fun d4 => ogd d4 (some (.bool true)) (ob (dIdx 4 t1 t6) fun d5 => ob (dBin .gtr (proj 0 d5) (.int .i64 1048576)) fun d6 => ogd d6 (some (.bool true)) (ob (dIdx 4 t1 t6) fun d7 => ob (R.p F_l11_Small [(.list 3 [(.agg [(proj 1 d7), (proj 2 d7), (proj 3 d7)])])]) fun d8 => ob (dUn .not d8) fun d9 => ogd d9 (some (.bool true)) (ob (dIdx 4 t1 t6) fun d10 => ob (R.p F_r03_Right [(.agg [(proj 1 d10), (proj 2 d10), (proj 3 d10)])]) fun d11 => ob (dUn .not d11) fun d12 => ogd d12 (some (.bool true)) (ob (dIdx 4 t1 t6) fun d13 => ob (R.p F_r03_Without [(.agg [(proj 1 d13), (proj 2 d13), (proj 3 d13)]), (.int .i64 6)]) fun d14 => ob (dUn .not d14) fun d15 => ogd d15 (some (.bool true)) (ob (dIdx 4 t1 t6) fun d16 => ob (R.p F_r03_In [t5, (proj 0 d16)]) fun d17 => ogd d17 (some (.bool true)) (ob (dIdx 4 t1 t6) fun d18 => ob (R.p F_r03_Size [(.agg [(proj 1 d18), (proj 2 d18), (proj 3 d18)])]) fun d19 => ob (dBin .gtr d19 (.int .i64 40)) fun d20 => oif d20 (some (.bool true)) (ob (dBin .add t6 (.int .i64 1)) fun d21 => P_l19_CheckTypes_5h R t1 t5 d21 b2 sg)) none) none) none) none) none) none) (ob (R.p F_check_Type [(ag20 b2)]) fun d22 =>
 ob (dExt 0 d22) fun d23 => ob (dExt 1 d22) fun d24 => og (isAggN 3 d23) <| ob (dBin .neq d24 (.int .i64 0)) fun d25 => oif d25 (ob (R.p F_l19_wakes []) fun d26 => some d26) (ob (R.p F_term_Types [(ag20 b2), t1]) fun d27 => ob (dExt 0 d27) fun d28 => ob (dExt 1 d27) fun d29 => og (isAggN 20 d28) <| ob (R.p F_check_Type [(ag20 d28)]) fun d30 => ob (dExt 0 d30) fun d31 => ob (dExt 1 d30) fun d32 => og (isAggN 3 d31) <| ob (R.p F_scheme_Subst [(ag3 d23), t1]) fun d33 => ob (dExt 0 d33) fun d34 => ob (dExt 1 d33) fun d35 => og (isAggN 3 d34) <| ob (dBin .eql d29 (.int .i64 0)) fun d36 => ogd d36 (ob (dBin .eql d32 (.int .i64 0)) fun d37 => ogd d37 (ob (dBin .eql d35 (.int .i64 0)) fun d38 => ogd d38 (ob (R.p F_keep_Same [(ag3 d31), (ag3 d34)]) fun d39 => ogd d39 (ob (R.p F_r03_Without [(ag3 d23), (.int .i64 6)]) fun d40 => ogd d40 (ob (R.p F_l19_wakes []) fun d41 => some d41) (some (.bool false)) none) (some (.bool false)) none) (some (.bool false)) none) (some (.bool false)) none) (some (.bool false)) none))) := headP_of [] (by kernel_rfl)
theorem call_l19_CheckTypes (x0 x1 : DV) {d : DV} (h : P_l19_CheckTypes (run cfg) x0 x1 = some d) : (run cfg).p F_l19_CheckTypes [x0, x1] = some d := callE Tryz.func3 (by kernel_rfl) (by kernel_rfl) (by kernel_rfl) h
noncomputable def P_l17_Heavy (R : Orc) (x0 : DV) : Option DV := eP Tryz.f6 fl_l17_Heavy R [] (initSt Tryz.f6 [(x0, .val)] [])
noncomputable def P_l17_Heavy_3h (R : Orc) (t0 t3 t4 : DV) : Option DV := hP Tryz.f6 fl_l17_Heavy R [true, true, false, true, false] (mst 19 [(0, t0), (3, t3), (4, t4)] [] [] [])
theorem eq_l17_Heavy (R : Orc) (x0 : DV) : P_l17_Heavy R x0 =
 (P_l17_Heavy_3h R x0 (.int .i64 0) (.int .i64 0)) := evP_of [] (by kernel_rfl)
theorem eq_l17_Heavy_3h (R : Orc) (t0 t3 t4 : DV) : P_l17_Heavy_3h R t0 t3 t4 =
 (ob (dLen t0) fun d1 => ob (dBin .lss t4 d1) fun d2 => oif d2 (ob (dIdx 20 t0 t4) fun d3 => ob (R.p F_l17_weigh [(ag20 d3), t3]) fun d4 => ob (dBin .add t4 (.int .i64 1)) fun d5 => P_l17_Heavy_3h R t0 d4 d5) (ob (dBin .gtr t3 (.int .i64 500)) fun d6 => some d6)) := headP_of [] (by kernel_rfl)
theorem call_l17_Heavy (x0 : DV) {d : DV} (h : P_l17_Heavy (run cfg) x0 = some d) : (run cfg).p F_l17_Heavy [x0] = some d := callE Tryz.func6 (by kernel_rfl) (by kernel_rfl) (by kernel_rfl) h
noncomputable def P_r17_Right (R : Orc) (x0 : DV) : Option DV := eP Tryz.f7 fl_r17_Right R [] (initSt Tryz.f7 [(x0, .val)] [])
noncomputable def P_r17_Right_4h (R : Orc) (t3 b1 : DV) : Option DV := hP Tryz.f7 fl_r17_Right R [true, true, false, true, false] (mst 21 [(3, t3)] [(1, (.loc 1 0))] [(1, some (bxs b1 0 20))] [])
theorem eq_r17_Right (R : Orc) (x0 : DV) : P_r17_Right R x0 =
 (og (isAggN 20 x0) <| ob (R.p F_r17_own [(ag20 x0)]) fun d1 => ob (dUn .not d1) fun d2 => oif d2 (some (.bool false)) (P_r17_Right_4h R (.int .i64 0) x0)) := evP_of [] (by kernel_rfl)
theorem eq_r17_Right_4h (R : Orc) (t3 b1 : DV) : P_r17_Right_4h R t3 b1 =
 (ob (dLen (proj 19 b1)) fun d1 => ob (dBin .lss t3 d1) fun d2 => oif d2 (ob (dIdx 20 (proj 19 b1) t3) fun d3 => ob (R.p F_r17_Right [(ag20 d3)]) fun d4 => ob (dUn .not d4) fun d5 => oif d5 (some (.bool false)) (ob (dBin .add t3 (.int .i64 1)) fun d6 => P_r17_Right_4h R d6 b1)) (some (.bool true))) := headP_of [] (by kernel_rfl)
theorem call_r17_Right (x0 : DV) {d : DV} (h : P_r17_Right (run cfg) x0 = some d) : (run cfg).p F_r17_Right [x0] = some d := callE Tryz.func7 (by kernel_rfl) (by kernel_rfl) (by kernel_rfl) h
noncomputable def P_r17_TameTerm (R : Orc) (x0 : DV) : Option DV := eP Tryz.f8 fl_r17_TameTerm R [] (initSt Tryz.f8 [(x0, .val)] [])
theorem eq_r17_TameTerm (R : Orc) (x0 : DV) : P_r17_TameTerm R x0 =
 (og (isAggN 20 x0) <| ob (R.p F_r17_Right [(ag20 x0)]) fun d1 => ob (dUn .not d1) fun d2 => oif d2 (some (.bool true)) (ob (R.r F_r17_bulk [(.undef, (.ptr 0 0)), ((ag20 x0), .val), ((.list 2 []), .val)] [SObj.box [((.bool false), .val)]]) fun q3 => ob (sgBox q3.2 0) fun c4 => ob (cellDat c4 0) fun d5 => ob (dUn .not d5) fun d6 => some d6)) := evP_of [] (by kernel_rfl)
theorem call_r17_TameTerm (x0 : DV) {d : DV} (h : P_r17_TameTerm (run cfg) x0 = some d) : (run cfg).p F_r17_TameTerm [x0] = some d := callE Tryz.func8 (by kernel_rfl) (by kernel_rfl) (by kernel_rfl) h
noncomputable def code_l19_vars : Code := Tryz.f9.body.getD .skip
noncomputable def P_l19_vars (R : Orc) (x0 x1 : DV) (sg : List SObj) : Option (List DV × List SObj) := evP cfg R fl_l19_vars (retR cfg.P Tryz.f9 sig_l19_vars) [] code_l19_vars (initSt Tryz.f9 [(x0, .val), (x1, .own)] sg)
noncomputable def P_l19_vars_3h (R : Orc) (t1 t5 b2 : DV) (sg : List SObj) : Option (List DV × List SObj) := headP cfg R fl_l19_vars (retR cfg.P Tryz.f9 sig_l19_vars) [true, true, false, true, false] code_l19_vars (mst 25 [(1, t1), (5, t5)] [(1, .own), (2, (.loc 2 0))] [(2, some (bxs b2 0 20))] sg)
theorem eq_l19_vars (R : Orc) (x0 x1 : DV) (sg : List SObj) : P_l19_vars R x0 x1 sg =
 (og (isAggN 20 x0) <| ob (dApp 1 x1 (proj 10 x0)) fun d1 => P_l19_vars_3h R d1 (.int .i64 0) x0 sg) := evP_of [] (by kernel_rfl)
theorem eq_l19_vars_3h (R : Orc) (t1 t5 b2 : DV) (sg : List SObj) : P_l19_vars_3h R t1 t5 b2 sg =
 (ob (dLen (proj 19 b2)) fun d1 => ob (dBin .lss t5 d1) fun d2 => oif d2 (ob (dIdx 20 (proj 19 b2) t5) fun d3 => ob (R.r F_l19_vars [((ag20 d3), .val), (t1, .own)] sg) fun q4 => ob (dBin .add t5 (.int .i64 1)) fun d5 => P_l19_vars_3h R (q4.1.getD 0 .undef) d5 b2 q4.2) (some ([t1], sg))) := headP_of [] (by kernel_rfl)
theorem fix_l19_vars (x0 x1 : DV) (sg : List SObj) : (run cfg).r F_l19_vars [(x0, .val), (x1, .own)] sg = P_l19_vars (run cfg) x0 x1 sg :=
 (fix_raw (C := cfg) (f := F_l19_vars) (s := sig_l19_vars) (fn := Tryz.f9) (c := code_l19_vars) (by kernel_rfl) Tryz.func9 (by kernel_rfl)).trans (by kernel_rfl)
theorem call_l19_vars (x0 x1 : DV) (sg : List SObj) {q : List DV × List SObj} (h : P_l19_vars (run cfg) x0 x1 sg = some q) : (run cfg).r F_l19_vars [(x0, .val), (x1, .own)] sg = some q := (fix_l19_vars x0 x1 sg).trans h
noncomputable def P_l11_Small (R : Orc) (x0 : DV) : Option DV := eP Tryz.f10 fl_l11_Small R [] (initSt Tryz.f10 [(x0, .val)] [])
noncomputable def P_l11_Small_2h (R : Orc) (t0 t3 : DV) : Option DV := hP Tryz.f10 fl_l11_Small R [true, false, true, false] (mst 32 [(0, t0), (3, t3)] [] [] [])
theorem eq_l11_Small (R : Orc) (x0 : DV) : P_l11_Small R x0 =
 (P_l11_Small_2h R x0 (.int .i64 0)) := evP_of [] (by kernel_rfl)
set_option maxRecDepth 100000 in
theorem eq_l11_Small_2h (R : Orc) (t0 t3 : DV) : P_l11_Small_2h R t0 t3 =
 (ob (dLen t0) fun d1 => ob (dBin .lss t3 d1) fun d2 => oif d2 (ob (dIdx 3 t0 t3) fun d3 => ob (R.p F_l03_Heavy [(.list 3 [(ag3 d3)])]) fun d4 => ogd d4 (some (.bool false)) (ob (dIdx 3 t0 t3) fun d5 => ob (R.p F_r08_Deep [(ag3 d5), (.int .i64 60)]) fun d6 => ogd d6 (some (.bool false)) (ob (dIdx 3 t0 t3) fun d7 => ob (R.p F_r03_Vars [(ag3 d7)]) fun d8 => ob (dLen d8) fun d9 => ob (dBin .gtr d9 (.int .i64 8)) fun d10 => oif d10 (some (.bool false)) (ob (dBin .add t3 (.int .i64 1)) fun d11 => P_l11_Small_2h R t0 d11)) none) none) (some (.bool true))) := headP_of [] (by kernel_rfl)
theorem call_l11_Small (x0 : DV) {d : DV} (h : P_l11_Small (run cfg) x0 = some d) : (run cfg).p F_l11_Small [x0] = some d := callE Tryz.func10 (by kernel_rfl) (by kernel_rfl) (by kernel_rfl) h
noncomputable def P_r03_Right (R : Orc) (x0 : DV) : Option DV := eP Tryz.f11 fl_r03_Right R [] (initSt Tryz.f11 [(x0, .val)] [])
noncomputable def P_r03_Right_4h (R : Orc) (t3 b1 : DV) : Option DV := hP Tryz.f11 fl_r03_Right R [true, true, false, true, false] (mst 45 [(3, t3)] [(1, (.loc 1 0))] [(1, some (bxs b1 0 3))] [])
set_option maxRecDepth 100000 in
theorem eq_r03_Right (R : Orc) (x0 : DV) : P_r03_Right R x0 =
 (og (isAggN 3 x0) <| ob (R.p F_r03_Kids [(proj 0 x0)]) fun d1 => ob (dLen (proj 2 x0)) fun d2 => ob (dBin .neq d1 d2) fun d3 => ogd d3 (some (.bool false)) (ob (dBin .lss (proj 1 x0) (.int .i64 0)) fun d4 => ogd d4 (some (.bool false)) (ob (dBin .gtr (proj 1 x0) (.int .i64 1048576)) fun d5 => ogd d5 (some (.bool false)) (ob (dBin .neq (proj 0 x0) (.int .i64 6)) fun d6 => ogd d6 (ob (dBin .neq (proj 1 x0) (.int .i64 0)) fun d7 => oif d7 (some (.bool false)) (P_r03_Right_4h R (.int .i64 0) x0)) (P_r03_Right_4h R (.int .i64 0) x0) none) none) none) none) := evP_of [] (by kernel_rfl)
theorem eq_r03_Right_4h (R : Orc) (t3 b1 : DV) : P_r03_Right_4h R t3 b1 =
 (ob (dLen (proj 2 b1)) fun d1 => ob (dBin .lss t3 d1) fun d2 => oif d2 (ob (dIdx 3 (proj 2 b1) t3) fun d3 => ob (R.p F_r03_Right [(ag3 d3)]) fun d4 => ob (dUn .not d4) fun d5 => oif d5 (some (.bool false)) (ob (dBin .add t3 (.int .i64 1)) fun d6 => P_r03_Right_4h R d6 b1)) (some (.bool true))) := headP_of [] (by kernel_rfl)
theorem call_r03_Right (x0 : DV) {d : DV} (h : P_r03_Right (run cfg) x0 = some d) : (run cfg).p F_r03_Right [x0] = some d := callE Tryz.func11 (by kernel_rfl) (by kernel_rfl) (by kernel_rfl) h
noncomputable def P_r03_Without (R : Orc) (x0 x1 : DV) : Option DV := eP Tryz.f12 fl_r03_Without R [] (initSt Tryz.f12 [(x0, .val), (x1, .val)] [])
noncomputable def P_r03_Without_4h (R : Orc) (t1 t5 b2 : DV) : Option DV := hP Tryz.f12 fl_r03_Without R [true, true, false, true, false] (mst 25 [(1, t1), (5, t5)] [(2, (.loc 2 0))] [(2, some (bxs b2 0 3))] [])
theorem eq_r03_Without (R : Orc) (x0 x1 : DV) : P_r03_Without R x0 x1 =
 (og (isAggN 3 x0) <| ob (dBin .eql (proj 0 x0) x1) fun d1 => oif d1 (some (.bool false)) (P_r03_Without_4h R x1 (.int .i64 0) x0)) := evP_of [] (by kernel_rfl)
theorem eq_r03_Without_4h (R : Orc) (t1 t5 b2 : DV) : P_r03_Without_4h R t1 t5 b2 =
 (ob (dLen (proj 2 b2)) fun d1 => ob (dBin .lss t5 d1) fun d2 => oif d2 (ob (dIdx 3 (proj 2 b2) t5) fun d3 => ob (R.p F_r03_Without [(ag3 d3), t1]) fun d4 => ob (dUn .not d4) fun d5 => oif d5 (some (.bool false)) (ob (dBin .add t5 (.int .i64 1)) fun d6 => P_r03_Without_4h R t1 d6 b2)) (some (.bool true))) := headP_of [] (by kernel_rfl)
theorem call_r03_Without (x0 x1 : DV) {d : DV} (h : P_r03_Without (run cfg) x0 x1 = some d) : (run cfg).p F_r03_Without [x0, x1] = some d := callE Tryz.func12 (by kernel_rfl) (by kernel_rfl) (by kernel_rfl) h
noncomputable def P_r03_In (R : Orc) (x0 x1 : DV) : Option DV := eP Tryz.f13 fl_r03_In R [] (initSt Tryz.f13 [(x0, .val), (x1, .val)] [])
noncomputable def P_r03_In_2h (R : Orc) (t0 t1 t5 : DV) : Option DV := hP Tryz.f13 fl_r03_In R [true, false, true, false] (mst 18 [(0, t0), (1, t1), (5, t5)] [] [] [])
theorem eq_r03_In (R : Orc) (x0 x1 : DV) : P_r03_In R x0 x1 =
 (P_r03_In_2h R x0 x1 (.int .i64 0)) := evP_of [] (by kernel_rfl)
theorem eq_r03_In_2h (R : Orc) (t0 t1 t5 : DV) : P_r03_In_2h R t0 t1 t5 =
 (ob (dLen t0) fun d1 => ob (dBin .lss t5 d1) fun d2 => oif d2 (ob (dIdx 1 t0 t5) fun d3 => og (isLeaf d3) <| ob (dBin .eql d3 t1) fun d4 => oif d4 (some (.bool true)) (ob (dBin .add t5 (.int .i64 1)) fun d5 => P_r03_In_2h R t0 t1 d5)) (some (.bool false))) := headP_of [] (by kernel_rfl)
theorem call_r03_In (x0 x1 : DV) {d : DV} (h : P_r03_In (run cfg) x0 x1 = some d) : (run cfg).p F_r03_In [x0, x1] = some d := callE Tryz.func13 (by kernel_rfl) (by kernel_rfl) (by kernel_rfl) h
noncomputable def P_r03_Size (R : Orc) (x0 : DV) : Option DV := eP Tryz.f14 fl_r03_Size R [] (initSt Tryz.f14 [(x0, .val)] [])
noncomputable def P_r03_Size_3h (R : Orc) (t3 t4 b1 : DV) : Option DV := hP Tryz.f14 fl_r03_Size R [true, true, false, true, false] (mst 21 [(3, t3), (4, t4)] [(1, (.loc 1 0))] [(1, some (bxs b1 0 3))] [])
theorem eq_r03_Size (R : Orc) (x0 : DV) : P_r03_Size R x0 =
 (og (isAggN 3 x0) <| P_r03_Size_3h R (.int .i64 1) (.int .i64 0) x0) := evP_of [] (by kernel_rfl)
theorem eq_r03_Size_3h (R : Orc) (t3 t4 b1 : DV) : P_r03_Size_3h R t3 t4 b1 =
 (ob (dLen (proj 2 b1)) fun d1 => ob (dBin .lss t4 d1) fun d2 => oif d2 (ob (dIdx 3 (proj 2 b1) t4) fun d3 => ob (R.p F_r03_Size [(ag3 d3)]) fun d4 => ob (dBin .add t3 d4) fun d5 => ob (dBin .add t4 (.int .i64 1)) fun d6 => P_r03_Size_3h R d5 d6 b1) (some t3)) := headP_of [] (by kernel_rfl)
theorem call_r03_Size (x0 : DV) {d : DV} (h : P_r03_Size (run cfg) x0 = some d) : (run cfg).p F_r03_Size [x0] = some d := callE Tryz.func14 (by kernel_rfl) (by kernel_rfl) (by kernel_rfl) h
noncomputable def P_check_Type (R : Orc) (x0 : DV) : Option DV := eP Tryz.f15 fl_check_Type R [] (initSt Tryz.f15 [(x0, .val)] [])
theorem eq_check_Type (R : Orc) (x0 : DV) : P_check_Type R x0 =
 (og (isAggN 20 x0) <| ob (R.p F_term_Check [(ag20 x0)]) fun d1 => ob (dBin .neq d1 (.int .i64 0)) fun d2 => oif d2 (some (.tup [(.agg [(.int .i64 0), (.int .i64 0), (.list 3 [])]), (.int .i64 1)])) (ob (R.r F_check_scope_term [(.undef, (.map 0)), ((ag20 x0), .val), ((.list 5 []), .val)] [.map false []]) fun q3 => ob (dExt 0 (.tup q3.1)) fun d4 => ob (dExt 1 (.tup q3.1)) fun d5 => og (isAggN 3 d4) <| some (.tup [(ag3 d4), d5]))) := evP_of [] (by kernel_rfl)
theorem call_check_Type (x0 : DV) {d : DV} (h : P_check_Type (run cfg) x0 = some d) : (run cfg).p F_check_Type [x0] = some d := callE Tryz.func15 (by kernel_rfl) (by kernel_rfl) (by kernel_rfl) h
noncomputable def P_l19_wakes (R : Orc) : Option DV := eP Tryz.f16 fl_l19_wakes R [] (initSt Tryz.f16 [] [])
set_option maxRecDepth 100000 in
theorem eq_l19_wakes (R : Orc) : P_l19_wakes R =
 (ob (R.p F_l19_cast [(.int .i64 1), (.int .i64 5), zA4]) fun d1 => ob (R.p F_check_Type [d1]) fun d2 => ob (dExt 0 d2) fun d3 => ob (dExt 1 d2) fun d4 => og (isAggN 3 d3) <| ob (R.p F_l19_cast [(.int .i64 1), (.int .i64 2), zA4]) fun d5 => ob (R.p F_check_Type [d5]) fun d6 => ob (dExt 0 d6) fun d7 => ob (dExt 1 d6) fun d8 => og (isAggN 3 d7) <| ob (R.p F_check_Type [(.agg [(.int .i64 1), (.int .i64 0), (.int .i64 0), (.str ⟨#[120]⟩), (.str ⟨#[]⟩), (.int .i64 0), (.str ⟨#[]⟩), (.int .i64 0), (.int .i64 0), (.bool false), (.list 1 []), (.int .i64 0), (.int .i64 0), (.list 3 []), (.int .i64 0), (.int .i64 0), (.list 3 []), (.list 3 []), (.list 7 []), (.list 20 [])])]) fun d9 => ob (dExt 0 d9) fun d10 => ob (dExt 1 d9) fun d11 => og (isAggN 3 d10) <| ob (dBin .eql d4 (.int .i64 0)) fun d12 => ogd d12 (ob (dBin .eql (proj 0 d3) (.int .i64 5)) fun d13 => ogd d13 (ob (dBin .eql d8 (.int .i64 4)) fun d14 => ogd d14 (ob (dBin .eql d11 (.int .i64 6)) fun d15 => some d15) (some (.bool false)) none) (some (.bool false)) none) (some (.bool false)) none) := evP_of [] (by kernel_rfl)
theorem call_l19_wakes {d : DV} (h : P_l19_wakes (run cfg) = some d) : (run cfg).p F_l19_wakes [] = some d := callE Tryz.func16 (by kernel_rfl) (by kernel_rfl) (by kernel_rfl) h
noncomputable def P_term_Types (R : Orc) (x0 x1 : DV) : Option DV := eP Tryz.f17 fl_term_Types R [] (initSt Tryz.f17 [(x0, .val), (x1, .val)] [])
theorem eq_term_Types (R : Orc) (x0 x1 : DV) : P_term_Types R x0 x1 =
 (og (isAggN 20 x0) <| ob (R.p F_term_right [(ag20 x0)]) fun d1 => ob (dUn .not d1) fun d2 => ogd d2 (some (.tup [zA3, (.int .i64 1)])) (ob (R.p F_term_bindsRight [x1]) fun d3 => ob (dUn .not d3) fun d4 => oif d4 (some (.tup [zA3, (.int .i64 1)])) (ob (dLen x1) fun d5 => ob (dBin .eql d5 (.int .i64 0)) fun d6 => oif d6 (some (.tup [(ag20 x0), (.int .i64 0)])) (ob (R.p F_term_types [(ag20 x0), x1]) fun d7 => og (isAggN 20 d7) <| some (.tup [(ag20 d7), (.int .i64 0)])))) none) := evP_of [] (by kernel_rfl)
theorem call_term_Types (x0 x1 : DV) {d : DV} (h : P_term_Types (run cfg) x0 x1 = some d) : (run cfg).p F_term_Types [x0, x1] = some d := callE Tryz.func17 (by kernel_rfl) (by kernel_rfl) (by kernel_rfl) h
noncomputable def P_scheme_Subst (R : Orc) (x0 x1 : DV) : Option DV := eP Tryz.f18 fl_scheme_Subst R [] (initSt Tryz.f18 [(x0, .val), (x1, .val)] [])
noncomputable def P_scheme_Subst_5h (R : Orc) (t1 t16 t17 t18 b2 : DV) (sg : List SObj) : Option DV := hP Tryz.f18 fl_scheme_Subst R [true, true, true, false, true, false] (mst 56 [(1, t1), (16, t16), (17, t17), (18, t18)] [(2, (.loc 2 0)), (4, (.loc 4 0)), (6, (.map 0))] [(2, some (bxs b2 0 3)), (4, some zb1)] sg)
theorem eq_scheme_Subst (R : Orc) (x0 x1 : DV) : P_scheme_Subst R x0 x1 =
 (og (isAggN 3 x0) <| ob (R.p F_typ_Check [(ag3 x0)]) fun d1 => ob (dBin .neq d1 (.int .i64 0)) fun d2 => oif d2 (some (.tup [(.agg [(.int .i64 0), (.int .i64 0), (.list 3 [])]), (.int .i64 1)])) (ob (dLen x1) fun d3 => P_scheme_Subst_5h R x1 x1 d3 (.int .i64 0) x0 [.map false []])) := evP_of [] (by kernel_rfl)
set_option maxRecDepth 100000 in
theorem eq_scheme_Subst_5h (R : Orc) (t1 t16 t17 t18 b2 : DV) (sg : List SObj) : P_scheme_Subst_5h R t1 t16 t17 t18 b2 sg =
 (ob (dBin .lss t18 t17) fun d1 => oif d1 (ob (dIdx 4 t16 t18) fun d2 => ob (dBin .lss (proj 0 d2) (.int .i64 0)) fun d3 => ogd d3 (some (.tup [(.agg [(.int .i64 0), (.int .i64 0), (.list 3 [])]), (.int .i64 1)])) (ob (dBin .gtr (proj 0 d2) (.int .i64 1048576)) fun d4 => ogd d4 (some (.tup [(.agg [(.int .i64 0), (.int .i64 0), (.list 3 [])]), (.int .i64 1)])) (ob (R.p F_typ_Check [(.agg [(proj 1 d2), (proj 2 d2), (proj 3 d2)])]) fun d5 => ob (dBin .neq d5 (.int .i64 0)) fun d6 => oif d6 (some (.tup [(.agg [(.int .i64 0), (.int .i64 0), (.list 3 [])]), (.int .i64 1)])) (og (isKey false (proj 0 d2) && true) <| ob (sgMap sg 0) fun m7 => og (m7.1 == false) <| ob (dUn .not (.bool (mGet m7.2 (proj 0 d2)).isSome)) fun d8 => oif d8 (og (isKey false (proj 0 d2) && true && true) <| ob (sgMap sg 0) fun m9 => og (m9.1 == false) <| ob (dBin .add t18 (.int .i64 1)) fun d10 => P_scheme_Subst_5h R t1 t16 t17 d10 b2 (sg.set 0 (.map false (mSet m9.2 (proj 0 d2) t18)))) (ob (dBin .add t18 (.int .i64 1)) fun d11 => P_scheme_Subst_5h R t1 t16 t17 d11 b2 sg))) none) none) (ob (R.r F_scheme_put [((ag3 b2), .val), (t1, .val), (.undef, (.map 0))] sg) fun q12 => og (isAggN 3 (q12.1.getD 0 .undef)) <| some (.tup [(.agg [(proj 0 (q12.1.getD 0 .undef)), (proj 1 (q12.1.getD 0 .undef)), (proj 2 (q12.1.getD 0 .undef))]), (.int .i64 0)]))) := headP_of [] (by kernel_rfl)
theorem call_scheme_Subst (x0 x1 : DV) {d : DV} (h : P_scheme_Subst (run cfg) x0 x1 = some d) : (run cfg).p F_scheme_Subst [x0, x1] = some d := callE Tryz.func18 (by kernel_rfl) (by kernel_rfl) (by kernel_rfl) h
noncomputable def P_keep_Same (R : Orc) (x0 x1 : DV) : Option DV := eP Tryz.f19 fl_keep_Same R [] (initSt Tryz.f19 [(x0, .val), (x1, .val)] [])
noncomputable def P_keep_Same_4h (R : Orc) (t5 b2 b3 : DV) : Option DV := hP Tryz.f19 fl_keep_Same R [true, true, false, true, false] (mst 46 [(5, t5)] [(2, (.loc 2 0)), (3, (.loc 3 0))] [(2, some (bxs b2 0 3)), (3, some (bxs b3 0 3))] [])
set_option maxRecDepth 100000 in
theorem eq_keep_Same (R : Orc) (x0 x1 : DV) : P_keep_Same R x0 x1 =
 (og (isAggN 3 x0) <| og (isAggN 3 x1) <| ob (dBin .neq (proj 0 x0) (proj 0 x1)) fun d1 => ogd d1 (some (.bool false)) (ob (dBin .neq (proj 1 x0) (proj 1 x1)) fun d2 => ogd d2 (some (.bool false)) (ob (dLen (proj 2 x0)) fun d3 => ob (dLen (proj 2 x1)) fun d4 => ob (dBin .neq d3 d4) fun d5 => oif d5 (some (.bool false)) (P_keep_Same_4h R (.int .i64 0) x0 x1)) none) none) := evP_of [] (by kernel_rfl)
theorem eq_keep_Same_4h (R : Orc) (t5 b2 b3 : DV) : P_keep_Same_4h R t5 b2 b3 =
 (ob (dLen (proj 2 b2)) fun d1 => ob (dBin .lss t5 d1) fun d2 => oif d2 (ob (dIdx 3 (proj 2 b2) t5) fun d3 => ob (dIdx 3 (proj 2 b3) t5) fun d4 => ob (R.p F_keep_Same [(ag3 d3), (ag3 d4)]) fun d5 => ob (dUn .not d5) fun d6 => oif d6 (some (.bool false)) (ob (dBin .add t5 (.int .i64 1)) fun d7 => P_keep_Same_4h R d7 b2 b3)) (some (.bool true))) := headP_of [] (by kernel_rfl)
theorem call_keep_Same (x0 x1 : DV) {d : DV} (h : P_keep_Same (run cfg) x0 x1 = some d) : (run cfg).p F_keep_Same [x0, x1] = some d := callE Tryz.func19 (by kernel_rfl) (by kernel_rfl) (by kernel_rfl) h
end Go.Su

/-
 Equations of the program's functions: by program.
-/
namespace Go.Su
open Go.Proofs
set_option linter.unusedVariables false
noncomputable def P_l17_light (R : Orc) (x0 : DV) : Option DV := eP Tryz.f24 fl_l17_light R [] (initSt Tryz.f24 [(x0, .val)] [])
theorem eq_l17_light (R : Orc) (x0 : DV) : P_l17_light R x0 =
 (og (isAggN 3 x0) <| ob (R.p F_l11_Small [(.list 3 [(ag3 x0)])]) fun d1 => ogd d1 (ob (R.p F_r03_Size [(ag3 x0)]) fun d2 => ob (dBin .leq d2 (.int .i64 60)) fun d3 => some d3) (some (.bool false)) none) := evP_of [] (by kernel_rfl)
theorem call_l17_light (x0 : DV) {d : DV} (h : P_l17_light (run cfg) x0 = some d) : (run cfg).p F_l17_light [x0] = some d := callE Tryz.func24 (by kernel_rfl) (by kernel_rfl) (by kernel_rfl) h
noncomputable def P_term_Check (R : Orc) (x0 : DV) : Option DV := eP Tryz.f27 fl_term_Check R [] (initSt Tryz.f27 [(x0, .val)] [])
theorem eq_term_Check (R : Orc) (x0 : DV) : P_term_Check R x0 =
 (og (isAggN 20 x0) <| ob (R.p F_term_right [(ag20 x0)]) fun d1 => ob (dUn .not d1) fun d2 => oif d2 (some (.int .i64 1)) (some (.int .i64 0))) := evP_of [] (by kernel_rfl)
theorem call_term_Check (x0 : DV) {d : DV} (h : P_term_Check (run cfg) x0 = some d) : (run cfg).p F_term_Check [x0] = some d := callE Tryz.func27 (by kernel_rfl) (by kernel_rfl) (by kernel_rfl) h
noncomputable def P_l17_weigh (R : Orc) (x0 x1 : DV) : Option DV := eP Tryz.f28 fl_l17_weigh R [] (initSt Tryz.f28 [(x0, .val), (x1, .val)] [])
noncomputable def P_l17_weigh_5h (R : Orc) (t1 t5 b2 : DV) : Option DV := hP Tryz.f28 fl_l17_weigh R [true, true, true, false, true, false] (mst 99 [(1, t1), (5, t5)] [(2, (.loc 2 0))] [(2, some (bxs b2 0 20))] [])
noncomputable def P_l17_weigh_11h (R : Orc) (t1 t6 b2 : DV) : Option DV := hP Tryz.f28 fl_l17_weigh R [true, true, true, true, false, true, false] (mst 99 [(1, t1), (6, t6)] [(2, (.loc 2 0))] [(2, some (bxs b2 0 20))] [])
noncomputable def P_l17_weigh_15h (R : Orc) (t1 t7 b2 : DV) : Option DV := hP Tryz.f28 fl_l17_weigh R [true, true, true, true, true, false, true, false] (mst 99 [(1, t1), (7, t7)] [(2, (.loc 2 0))] [(2, some (bxs b2 0 20))] [])
set_option maxRecDepth 100000 in
theorem eq_l17_weigh (R : Orc) (x0 x1 : DV) : P_l17_weigh R x0 x1 =
 (og (isAggN 20 x0) <| ob (dBin .add x1 (.int .i64 1)) fun d1 => ob (dLen (proj 10 x0)) fun d2 => ob (dBin .add d1 d2) fun d3 => ob (dLenS (proj 6 x0)) fun d4 => ob (dBin .gtr d4 (.int .i64 300)) fun d5 => ogd d5 (some (.int .i64 501)) (ob (dLenS (proj 3 x0)) fun d6 => ob (dBin .gtr d6 (.int .i64 300)) fun d7 => ogd d7 (some (.int .i64 501)) (ob (dLenS (proj 4 x0)) fun d8 => ob (dBin .gtr d8 (.int .i64 300)) fun d9 => ogd d9 (some (.int .i64 501)) (ob (R.p F_l17_light [(.agg [(proj 11 x0), (proj 12 x0), (proj 13 x0)])]) fun d10 => ob (dUn .not d10) fun d11 => ogd d11 (some (.int .i64 501)) (ob (R.p F_l17_light [(.agg [(proj 14 x0), (proj 15 x0), (proj 16 x0)])]) fun d12 => ob (dUn .not d12) fun d13 => oif d13 (some (.int .i64 501)) (P_l17_weigh_5h R d3 (.int .i64 0) x0)) none) none) none) none) := evP_of [] (by kernel_rfl)
theorem eq_l17_weigh_5h (R : Orc) (t1 t5 b2 : DV) : P_l17_weigh_5h R t1 t5 b2 =
 (ob (dLen (proj 17 b2)) fun d1 => ob (dBin .lss t5 d1) fun d2 => ogd d2 (ob (dBin .leq t1 (.int .i64 500)) fun d3 => oif d3 (ob (dBin .add t1 (.int .i64 1)) fun d4 => ob (dIdx 3 (proj 17 b2) t5) fun d5 => ob (R.p F_l17_light [(ag3 d5)]) fun d6 => ob (dUn .not d6) fun d7 => oif d7 (some (.int .i64 501)) (ob (dBin .add t5 (.int .i64 1)) fun d8 => P_l17_weigh_5h R d4 d8 b2)) (P_l17_weigh_11h R t1 (.int .i64 0) b2)) (P_l17_weigh_11h R t1 (.int .i64 0) b2) none) := headP_of [] (by kernel_rfl)
theorem eq_l17_weigh_11h (R : Orc) (t1 t6 b2 : DV) : P_l17_weigh_11h R t1 t6 b2 =
 (ob (dLen (proj 18 b2)) fun d1 => ob (dBin .lss t6 d1) fun d2 => ogd d2 (ob (dBin .leq t1 (.int .i64 500)) fun d3 => oif d3 (ob (dIdx 7 (proj 18 b2) t6) fun d4 => ob (R.p F_l17_weighPat [(ag7 d4), t1]) fun d5 => ob (dBin .add t6 (.int .i64 1)) fun d6 => P_l17_weigh_11h R d5 d6 b2) (P_l17_weigh_15h R t1 (.int .i64 0) b2)) (P_l17_weigh_15h R t1 (.int .i64 0) b2) none) := headP_of [] (by kernel_rfl)
theorem eq_l17_weigh_15h (R : Orc) (t1 t7 b2 : DV) : P_l17_weigh_15h R t1 t7 b2 =
 (ob (dLen (proj 19 b2)) fun d1 => ob (dBin .lss t7 d1) fun d2 => ogd d2 (ob (dBin .leq t1 (.int .i64 500)) fun d3 => oif d3 (ob (dIdx 20 (proj 19 b2) t7) fun d4 => ob (R.p F_l17_weigh [(ag20 d4), t1]) fun d5 => ob (dBin .add t7 (.int .i64 1)) fun d6 => P_l17_weigh_15h R d5 d6 b2) (some t1)) (some t1) none) := headP_of [] (by kernel_rfl)
theorem call_l17_weigh (x0 x1 : DV) {d : DV} (h : P_l17_weigh (run cfg) x0 x1 = some d) : (run cfg).p F_l17_weigh [x0, x1] = some d := callE Tryz.func28 (by kernel_rfl) (by kernel_rfl) (by kernel_rfl) h
noncomputable def P_r17_own (R : Orc) (x0 : DV) : Option DV := eP Tryz.f29 fl_r17_own R [] (initSt Tryz.f29 [(x0, .val)] [])
noncomputable def P_r17_own_5h (R : Orc) (t5 b1 : DV) : Option DV := hP Tryz.f29 fl_r17_own R [true, true, true, false, true, false] (mst 168 [(5, t5)] [(1, (.loc 1 0))] [(1, some (bxs b1 0 20))] [])
noncomputable def P_r17_own_10h (R : Orc) (t6 b1 : DV) : Option DV := hP Tryz.f29 fl_r17_own R [true, true, true, true, false, true, false] (mst 168 [(6, t6)] [(1, (.loc 1 0))] [(1, some (bxs b1 0 20))] [])
noncomputable def P_r17_own_15h (R : Orc) (t7 b1 : DV) : Option DV := hP Tryz.f29 fl_r17_own R [true, true, true, true, true, false, true, false] (mst 168 [(7, t7)] [(1, (.loc 1 0))] [(1, some (bxs b1 0 20))] [])
theorem eq_r17_own (R : Orc) (x0 : DV) : P_r17_own R x0 =
 (og (isAggN 20 x0) <| ob (R.p F_r17_bare [(ag20 x0)]) fun d1 => ob (dExt 0 d1) fun d2 => ob (dExt 1 d1) fun d3 => og (isAggN 20 d2) <| ob (dLen (proj 19 x0)) fun d4 => ob (dBin .neq d3 d4) fun d5 => ogd d5 (some (.bool false)) (ob (R.p F_r17_flat [(ag20 d2), (ag20 x0)]) fun d6 => ob (dUn .not d6) fun d7 => oif d7 (some (.bool false)) (P_r17_own_5h R (.int .i64 0) x0)) none) := evP_of [] (by kernel_rfl)
theorem eq_r17_own_5h (R : Orc) (t5 b1 : DV) : P_r17_own_5h R t5 b1 =
 (ob (dLen (proj 17 b1)) fun d1 => ob (dBin .lss t5 d1) fun d2 => oif d2 (ob (dIdx 3 (proj 17 b1) t5) fun d3 => ob (R.p F_r03_Right [(ag3 d3)]) fun d4 => ob (dUn .not d4) fun d5 => oif d5 (some (.bool false)) (ob (dBin .add t5 (.int .i64 1)) fun d6 => P_r17_own_5h R d6 b1)) (P_r17_own_10h R (.int .i64 0) b1)) := headP_of [] (by kernel_rfl)
theorem eq_r17_own_10h (R : Orc) (t6 b1 : DV) : P_r17_own_10h R t6 b1 =
 (ob (dLen (proj 10 b1)) fun d1 => ob (dBin .lss t6 d1) fun d2 => oif d2 (ob (dIdx 1 (proj 10 b1) t6) fun d3 => og (isLeaf d3) <| ob (dBin .lss d3 (.int .i64 0)) fun d4 => ogd d4 (some (.bool false)) (ob (dIdx 1 (proj 10 b1) t6) fun d5 => og (isLeaf d5) <| ob (dBin .gtr d5 (.int .i64 1048576)) fun d6 => oif d6 (some (.bool false)) (ob (dBin .add t6 (.int .i64 1)) fun d7 => P_r17_own_10h R d7 b1)) none) (P_r17_own_15h R (.int .i64 0) b1)) := headP_of [] (by kernel_rfl)
set_option maxRecDepth 100000 in
theorem eq_r17_own_15h (R : Orc) (t7 b1 : DV) : P_r17_own_15h R t7 b1 =
 (ob (dLen (proj 18 b1)) fun d1 => ob (dBin .lss t7 d1) fun d2 => oif d2 (ob (dIdx 7 (proj 18 b1) t7) fun d3 => ob (R.p F_r05_RightPat [(ag7 d3)]) fun d4 => ob (dUn .not d4) fun d5 => oif d5 (some (.bool false)) (ob (dBin .add t7 (.int .i64 1)) fun d6 => P_r17_own_15h R d6 b1)) (ob (dBin .eql (proj 0 b1) (.int .i64 1)) fun d7 => oif d7 (ob (R.p F_r01_Name [(proj 3 b1)]) fun d8 => some d8) (ob (dBin .eql (proj 0 b1) (.int .i64 11)) fun d9 => oif d9 (ob (R.p F_r01_Name [(proj 3 b1)]) fun d10 => some d10) (ob (dBin .eql (proj 0 b1) (.int .i64 3)) fun d11 => oif d11 (ob (dBin .eql (proj 5 b1) (.int .i64 0)) fun d12 => ogd d12 (some (.bool true)) (ob (dBin .eql (proj 5 b1) (.int .i64 1)) fun d13 => some d13) none) (ob (dBin .eql (proj 0 b1) (.int .i64 4)) fun d14 => oif d14 (ob (dLenS (proj 6 b1)) fun d15 => ob (dBin .leq d15 (.int .i64 200)) fun d16 => some d16) (ob (dBin .eql (proj 0 b1) (.int .i64 7)) fun d17 => oif d17 (ob (R.p F_r03_Right [(.agg [(proj 11 b1), (proj 12 b1), (proj 13 b1)])]) fun d18 => some d18) (ob (dBin .eql (proj 0 b1) (.int .i64 9)) fun d19 => oif d19 (ob (R.p F_r01_Name [(proj 3 b1)]) fun d20 => ogd d20 (ob (R.p F_r03_Right [(.agg [(proj 11 b1), (proj 12 b1), (proj 13 b1)])]) fun d21 =>
 some d21) (some (.bool false)) none) (ob (dBin .eql (proj 0 b1) (.int .i64 12)) fun d22 => oif d22 (ob (R.p F_r01_Name [(proj 3 b1)]) fun d23 => ogd d23 (ob (R.p F_r01_Name [(proj 4 b1)]) fun d24 => ogd d24 (ob (R.p F_r03_Right [(.agg [(proj 11 b1), (proj 12 b1), (proj 13 b1)])]) fun d25 => ogd d25 (ob (R.p F_r03_Right [(.agg [(proj 14 b1), (proj 15 b1), (proj 16 b1)])]) fun d26 => some d26) (some (.bool false)) none) (some (.bool false)) none) (some (.bool false)) none) (ob (dBin .eql (proj 0 b1) (.int .i64 14)) fun d27 => oif d27 (ob (dLen (proj 18 b1)) fun d28 => ob (dBin .gtr d28 (.int .i64 0)) fun d29 => some d29) (ob (dBin .eql (proj 0 b1) (.int .i64 15)) fun d30 => oif d30 (ob (dBin .geq (proj 7 b1) (.int .i64 1)) fun d31 => ogd d31 (ob (dBin .leq (proj 7 b1) (.int .i64 7)) fun d32 => some d32) (some (.bool false)) none) (ob (dBin .eql (proj 0 b1) (.int .i64 16)) fun d33 => oif d33 (ob (dBin .geq (proj 8 b1) (.int .i64 0)) fun d34 => ogd d34 (ob (dBin .leq (proj 8 b1) (.int .i64 1048576)) fun d35 => ogd d35 (ob (R.p F_r03_Right [(.agg [(proj 11 b1), (proj 12 b1), (proj 13 b1)])]) fun d36 => ogd d36 (ob (R.p F_r03_Right [(.agg [(proj 14 b1), (proj 15 b1), (proj 16 b1)])]) fun d37 =>
 some d37) (some (.bool false)) none) (some (.bool false)) none) (some (.bool false)) none) (some (.bool true))))))))))))) := headP_of [] (by kernel_rfl)
theorem call_r17_own (x0 : DV) {d : DV} (h : P_r17_own (run cfg) x0 = some d) : (run cfg).p F_r17_own [x0] = some d := callE Tryz.func29 (by kernel_rfl) (by kernel_rfl) (by kernel_rfl) h
end Go.Su

/-
 Equations of the program's functions: by program.
-/
namespace Go.Su
open Go.Proofs
set_option linter.unusedVariables false
noncomputable def code_r17_bulk : Code := Tryz.f30.body.getD .skip
noncomputable def P_r17_bulk (R : Orc) (x0 : Nat) (x1 x2 : DV) (sg : List SObj) : Option (List DV × List SObj) := evP cfg R fl_r17_bulk (retR cfg.P Tryz.f30 sig_r17_bulk) [] code_r17_bulk (initSt Tryz.f30 [(.undef, (.ptr x0 0)), (x1, .val), (x2, .val)] sg)
noncomputable def P_r17_bulk_5h (R : Orc) (t0i : Nat) (t2 t7 t8 b4 : DV) (sg : List SObj) : Option (List DV × List SObj) := headP cfg R fl_r17_bulk (retR cfg.P Tryz.f30 sig_r17_bulk) [true, true, true, false, true, false] code_r17_bulk (mst 200 [(2, t2), (7, t7), (8, t8)] [(0, (.ptr t0i 0)), (4, (.loc 4 0)), (7, .own)] [(4, some (bxs b4 0 20))] sg)
noncomputable def P_r17_bulk_22 (R : Orc) (t0i : Nat) (t2 t7 t8 t9 b4 : DV) (sg : List SObj) : Option (List DV × List SObj) := evP cfg R fl_r17_bulk (retR cfg.P Tryz.f30 sig_r17_bulk) [true, true, true, false, true, false, false, true, false, false, true, true] code_r17_bulk (mst 200 [(2, t2), (7, t7), (8, t8), (9, t9)] [(0, (.ptr t0i 0)), (4, (.loc 4 0)), (7, .own)] [(4, some (bxs b4 0 20))] sg)
noncomputable def P_r17_bulk_12 (R : Orc) (t0i : Nat) (t2 t7 t8 t9 b4 : DV) (sg : List SObj) : Option (List DV × List SObj) := evP cfg R fl_r17_bulk (retR cfg.P Tryz.f30 sig_r17_bulk) [true, true, true, false, true, false, false, true, false, false, true, false, false, true, true, true, true] code_r17_bulk (mst 200 [(2, t2), (7, t7), (8, t8), (9, t9)] [(0, (.ptr t0i 0)), (4, (.loc 4 0)), (7, .own)] [(4, some (bxs b4 0 20))] sg)
noncomputable def P_r17_bulk_25h (R : Orc) (t0i : Nat) (t2 t7 t12 t13 b4 : DV) (sg : List SObj) : Option (List DV × List SObj) := headP cfg R fl_r17_bulk (retR cfg.P Tryz.f30 sig_r17_bulk) [true, true, true, true, true, false, true, false] code_r17_bulk (mst 200 [(2, t2), (7, t7), (12, t12), (13, t13)] [(0, (.ptr t0i 0)), (4, (.loc 4 0))] [(4, some (bxs b4 0 20))] sg)
noncomputable def P_r17_bulk_19h (R : Orc) (t0i : Nat) (t2 t7 t8 t9 t10 t11 b4 : DV) (sg : List SObj) : Option (List DV × List SObj) := headP cfg R fl_r17_bulk (retR cfg.P Tryz.f30 sig_r17_bulk) [true, true, true, false, true, false, false, true, false, false, true, false, false, true, true, true, true, true, true, true, false, true, true, false] code_r17_bulk (mst 200 [(2, t2), (7, t7), (8, t8), (9, t9), (10, t10), (11, t11)] [(0, (.ptr t0i 0)), (4, (.loc 4 0)), (7, .own)] [(4, some (bxs b4 0 20))] sg)
theorem eq_r17_bulk (R : Orc) (x0 : Nat) (x1 x2 : DV) (sg : List SObj) : P_r17_bulk R x0 x1 x2 sg =
 (og (isAggN 20 x1) <| ob (sgBox sg x0) fun c1 => ob (cellDat c1 0) fun d2 => oif d2 (some ([(.int .i64 1)], sg)) (P_r17_bulk_5h R x0 x2 (.list 1 []) (.int .i64 0) x1 sg)) := evP_of [12, 22] (by kernel_rfl)
theorem eq_r17_bulk_5h (R : Orc) (t0i : Nat) (t2 t7 t8 b4 : DV) (sg : List SObj) : P_r17_bulk_5h R t0i t2 t7 t8 b4 sg =
 (ob (dLen (proj 19 b4)) fun d1 => ob (dBin .lss t8 d1) fun d2 => oif d2 (ob (dBin .eql (proj 0 b4) (.int .i64 9)) fun d3 => oif d3 (ob (R.p F_r03_Size [(.agg [(proj 11 b4), (proj 12 b4), (proj 13 b4)])]) fun d4 => ob (R.r F_r16_Bulk_Of [(.undef, (.ptr t0i 0)), (d4, .val)] sg) fun q5 => ob (R.p F_r17_more [t2, (proj 3 b4), (q5.1.getD 0 .undef)]) fun d6 => P_r17_bulk_22 R t0i t2 t7 t8 d6 b4 q5.2) (ob (dBin .eql (proj 0 b4) (.int .i64 11)) fun d7 => ogd d7 (ob (dBin .eql t8 (.int .i64 1)) fun d8 => oif d8 (ob (dIdx 1 t7 (.int .i64 0)) fun d9 => og (isLeaf d9) <| ob (R.p F_r17_more [t2, (proj 3 b4), d9]) fun d10 => P_r17_bulk_22 R t0i t2 t7 t8 d10 b4 sg) (P_r17_bulk_12 R t0i t2 t7 t8 t2 b4 sg)) (P_r17_bulk_12 R t0i t2 t7 t8 t2 b4 sg) none)) (P_r17_bulk_25h R t0i t2 t7 (.int .i64 1) (.int .i64 0) b4 sg)) := headP_of [12, 22] (by kernel_rfl)
theorem eq_r17_bulk_22 (R : Orc) (t0i : Nat) (t2 t7 t8 t9 b4 : DV) (sg : List SObj) : P_r17_bulk_22 R t0i t2 t7 t8 t9 b4 sg =
 (ob (dIdx 20 (proj 19 b4) t8) fun d1 => ob (R.r F_r17_bulk [(.undef, (.ptr t0i 0)), ((ag20 d1), .val), (t9, .val)] sg) fun q2 => og (isCell (q2.1.getD 0 .undef)) <| ob (dApp 1 t7 (.list 1 [(q2.1.getD 0 .undef)])) fun d3 => ob (dBin .add t8 (.int .i64 1)) fun d4 => P_r17_bulk_5h R t0i t2 d3 d4 b4 q2.2) := evP_of [12, 22] (by kernel_rfl)
set_option maxRecDepth 100000 in
theorem eq_r17_bulk_12 (R : Orc) (t0i : Nat) (t2 t7 t8 t9 b4 : DV) (sg : List SObj) : P_r17_bulk_12 R t0i t2 t7 t8 t9 b4 sg =
 (ob (dBin .eql (proj 0 b4) (.int .i64 12)) fun d1 => oif d1 (ob (R.p F_r03_Size [(.agg [(proj 11 b4), (proj 12 b4), (proj 13 b4)])]) fun d2 => ob (R.p F_r03_Size [(.agg [(proj 14 b4), (proj 15 b4), (proj 16 b4)])]) fun d3 => ob (dBin .add d2 d3) fun d4 => ob (dBin .add d4 (.int .i64 1)) fun d5 => ob (R.r F_r16_Bulk_Of [(.undef, (.ptr t0i 0)), (d5, .val)] sg) fun q6 => ob (R.p F_r17_more [t2, (proj 3 b4), (q6.1.getD 0 .undef)]) fun d7 => ob (dBin .eql t8 (.int .i64 0)) fun d8 => oif d8 (ob (R.p F_r03_Size [(.agg [(proj 11 b4), (proj 12 b4), (proj 13 b4)])]) fun d9 => ob (R.r F_r16_Bulk_Of [(.undef, (.ptr t0i 0)), (d9, .val)] q6.2) fun q10 => ob (R.p F_r17_more [d7, (proj 4 b4), (q10.1.getD 0 .undef)]) fun d11 => P_r17_bulk_22 R t0i t2 t7 t8 d11 b4 q10.2) (P_r17_bulk_22 R t0i t2 t7 t8 d7 b4 q6.2)) (ob (dBin .eql (proj 0 b4) (.int .i64 14)) fun d12 => ogd d12 (ob (dBin .gtr t8 (.int .i64 0)) fun d13 => ogd d13 (ob (dLen (proj 18 b4)) fun d14 => ob (dBin .leq t8 d14) fun d15 => oif d15 (ob (dBin .sub t8 (.int .i64 1)) fun d16 => ob (dIdx 7 (proj 18 b4) d16) fun d17 => ob (R.p F_r05_Names [(ag7 d17)]) fun d18 => P_r17_bulk_19h R t0i t2 t7 t8 t9 d18 (.int .i64 0) b4 sg) (P_r17_bulk_22 R t0i t2 t7 t8 t9 b4 sg)) (P_r17_bulk_22 R t0i t2 t7 t8 t9 b4 sg) none) (P_r17_bulk_22 R t0i t2 t7 t8 t9 b4 sg) none)) := evP_of [12, 22] (by kernel_rfl)
set_option maxRecDepth 100000 in
theorem eq_r17_bulk_25h (R : Orc) (t0i : Nat) (t2 t7 t12 t13 b4 : DV) (sg : List SObj) : P_r17_bulk_25h R t0i t2 t7 t12 t13 b4 sg =
 (ob (dLen t7) fun d1 => ob (dBin .lss t13 d1) fun d2 => oif d2 (ob (dIdx 1 t7 t13) fun d3 => og (isLeaf d3) <| ob (dMax t12 d3) fun d4 => ob (dBin .add t13 (.int .i64 1)) fun d5 => P_r17_bulk_25h R t0i t2 t7 d4 d5 b4 sg) (ob (dBin .eql (proj 0 b4) (.int .i64 1)) fun d6 => oif d6 (ob (R.r F_r16_Bulk_Named [(.undef, (.ptr t0i 0)), (t2, .val), ((proj 3 b4), .val), ((proj 17 b4), .val)] sg) fun q7 => some ([(q7.1.getD 0 .undef)], q7.2)) (ob (dBin .eql (proj 0 b4) (.int .i64 7)) fun d8 => oif d8 (ob (R.p F_r03_Size [(.agg [(proj 11 b4), (proj 12 b4), (proj 13 b4)])]) fun d9 => ob (dBin .add d9 (.int .i64 1)) fun d10 => ob (R.r F_r16_Bulk_Of [(.undef, (.ptr t0i 0)), (d10, .val)] sg) fun q11 => some ([(q11.1.getD 0 .undef)], q11.2)) (ob (dBin .eql (proj 0 b4) (.int .i64 6)) fun d12 => oif d12 (ob (dIdx 1 t7 (.int .i64 0)) fun d13 => og (isLeaf d13) <| ob (dIdx 1 t7 (.int .i64 1)) fun d14 => og (isLeaf d14) <| ob (dBin .add d13 d14) fun d15 => ob (dBin .add d15 (.int .i64 1)) fun d16 => ob (R.r F_r16_Bulk_Of [(.undef, (.ptr t0i 0)), (d16, .val)] sg) fun q17 => some ([(q17.1.getD 0 .undef)], q17.2)) (ob (dBin .eql (proj 0 b4) (.int .i64 8)) fun d18 => oif d18 (ob (dBin .add t12 (.int .i64 1)) fun d19 =>
 ob (R.r F_r16_Bulk_Of [(.undef, (.ptr t0i 0)), (d19, .val)] sg) fun q20 => some ([(q20.1.getD 0 .undef)], q20.2)) (ob (dBin .eql (proj 0 b4) (.int .i64 9)) fun d21 => oif d21 (ob (R.p F_r03_Size [(.agg [(proj 11 b4), (proj 12 b4), (proj 13 b4)])]) fun d22 => ob (dBin .add d22 (.int .i64 1)) fun d23 => ob (dIdx 1 t7 (.int .i64 0)) fun d24 => og (isLeaf d24) <| ob (dBin .add d23 d24) fun d25 => ob (R.r F_r16_Bulk_Of [(.undef, (.ptr t0i 0)), (d25, .val)] sg) fun q26 => some ([(q26.1.getD 0 .undef)], q26.2)) (ob (dBin .eql (proj 0 b4) (.int .i64 16)) fun d27 => oif d27 (ob (R.p F_r03_Size [(.agg [(proj 14 b4), (proj 15 b4), (proj 16 b4)])]) fun d28 => ob (R.r F_r16_Bulk_Of [(.undef, (.ptr t0i 0)), (d28, .val)] sg) fun q29 => some ([(q29.1.getD 0 .undef)], q29.2)) (some ([t12], sg))))))))) := headP_of [12, 22] (by kernel_rfl)
theorem eq_r17_bulk_19h (R : Orc) (t0i : Nat) (t2 t7 t8 t9 t10 t11 b4 : DV) (sg : List SObj) : P_r17_bulk_19h R t0i t2 t7 t8 t9 t10 t11 b4 sg =
 (ob (dLen t10) fun d1 => ob (dBin .lss t11 d1) fun d2 => oif d2 (ob (dIdx 1 t10 t11) fun d3 => og (isLeaf d3) <| ob (dIdx 1 t7 (.int .i64 0)) fun d4 => og (isLeaf d4) <| ob (R.p F_r17_more [t9, d3, d4]) fun d5 => ob (dBin .add t11 (.int .i64 1)) fun d6 => P_r17_bulk_19h R t0i t2 t7 t8 d5 t10 d6 b4 sg) (P_r17_bulk_22 R t0i t2 t7 t8 t9 b4 sg)) := headP_of [12, 22] (by kernel_rfl)
theorem fix_r17_bulk (x0 : Nat) (x1 x2 : DV) (sg : List SObj) : (run cfg).r F_r17_bulk [(.undef, (.ptr x0 0)), (x1, .val), (x2, .val)] sg = P_r17_bulk (run cfg) x0 x1 x2 sg :=
 (fix_raw (C := cfg) (f := F_r17_bulk) (s := sig_r17_bulk) (fn := Tryz.f30) (c := code_r17_bulk) (by kernel_rfl) Tryz.func30 (by kernel_rfl)).trans (by kernel_rfl)
theorem call_r17_bulk (x0 : Nat) (x1 x2 : DV) (sg : List SObj) {q : List DV × List SObj} (h : P_r17_bulk (run cfg) x0 x1 x2 sg = some q) : (run cfg).r F_r17_bulk [(.undef, (.ptr x0 0)), (x1, .val), (x2, .val)] sg = some q := (fix_r17_bulk x0 x1 x2 sg).trans h
noncomputable def P_l03_Heavy (R : Orc) (x0 : DV) : Option DV := eP Tryz.f31 fl_l03_Heavy R [] (initSt Tryz.f31 [(x0, .val)] [])
noncomputable def P_l03_Heavy_3h (R : Orc) (t0 t3 t4 : DV) : Option DV := hP Tryz.f31 fl_l03_Heavy R [true, true, false, true, false] (mst 19 [(0, t0), (3, t3), (4, t4)] [] [] [])
theorem eq_l03_Heavy (R : Orc) (x0 : DV) : P_l03_Heavy R x0 =
 (P_l03_Heavy_3h R x0 (.int .i64 0) (.int .i64 0)) := evP_of [] (by kernel_rfl)
theorem eq_l03_Heavy_3h (R : Orc) (t0 t3 t4 : DV) : P_l03_Heavy_3h R t0 t3 t4 =
 (ob (dLen t0) fun d1 => ob (dBin .lss t4 d1) fun d2 => oif d2 (ob (dIdx 3 t0 t4) fun d3 => ob (R.p F_l03_count [(ag3 d3), t3]) fun d4 => ob (dBin .add t4 (.int .i64 1)) fun d5 => P_l03_Heavy_3h R t0 d4 d5) (ob (dBin .gtr t3 (.int .i64 600)) fun d6 => some d6)) := headP_of [] (by kernel_rfl)
theorem call_l03_Heavy (x0 : DV) {d : DV} (h : P_l03_Heavy (run cfg) x0 = some d) : (run cfg).p F_l03_Heavy [x0] = some d := callE Tryz.func31 (by kernel_rfl) (by kernel_rfl) (by kernel_rfl) h
noncomputable def P_r08_Deep (R : Orc) (x0 x1 : DV) : Option DV := eP Tryz.f32 fl_r08_Deep R [] (initSt Tryz.f32 [(x0, .val), (x1, .val)] [])
noncomputable def P_r08_Deep_4h (R : Orc) (t1 t5 b2 : DV) : Option DV := hP Tryz.f32 fl_r08_Deep R [true, true, false, true, false] (mst 23 [(1, t1), (5, t5)] [(2, (.loc 2 0))] [(2, some (bxs b2 0 3))] [])
theorem eq_r08_Deep (R : Orc) (x0 x1 : DV) : P_r08_Deep R x0 x1 =
 (og (isAggN 3 x0) <| ob (dBin .leq x1 (.int .i64 0)) fun d1 => oif d1 (some (.bool true)) (P_r08_Deep_4h R x1 (.int .i64 0) x0)) := evP_of [] (by kernel_rfl)
theorem eq_r08_Deep_4h (R : Orc) (t1 t5 b2 : DV) : P_r08_Deep_4h R t1 t5 b2 =
 (ob (dLen (proj 2 b2)) fun d1 => ob (dBin .lss t5 d1) fun d2 => oif d2 (ob (dIdx 3 (proj 2 b2) t5) fun d3 => ob (dBin .sub t1 (.int .i64 1)) fun d4 => ob (R.p F_r08_Deep [(ag3 d3), d4]) fun d5 => oif d5 (some (.bool true)) (ob (dBin .add t5 (.int .i64 1)) fun d6 => P_r08_Deep_4h R t1 d6 b2)) (some (.bool false))) := headP_of [] (by kernel_rfl)
theorem call_r08_Deep (x0 x1 : DV) {d : DV} (h : P_r08_Deep (run cfg) x0 x1 = some d) : (run cfg).p F_r08_Deep [x0, x1] = some d := callE Tryz.func32 (by kernel_rfl) (by kernel_rfl) (by kernel_rfl) h
noncomputable def P_r03_Vars (R : Orc) (x0 : DV) : Option DV := eP Tryz.f33 fl_r03_Vars R [] (initSt Tryz.f33 [(x0, .val)] [])
theorem eq_r03_Vars (R : Orc) (x0 : DV) : P_r03_Vars R x0 =
 (og (isAggN 3 x0) <| ob (R.r F_r03_vars [((ag3 x0), .val), ((.list 1 []), .own)] []) fun q1 => some (q1.1.getD 0 .undef)) := evP_of [] (by kernel_rfl)
theorem call_r03_Vars (x0 : DV) {d : DV} (h : P_r03_Vars (run cfg) x0 = some d) : (run cfg).p F_r03_Vars [x0] = some d := callE Tryz.func33 (by kernel_rfl) (by kernel_rfl) (by kernel_rfl) h
noncomputable def P_r03_Kids (R : Orc) (x0 : DV) : Option DV := eP Tryz.f34 fl_r03_Kids R [] (initSt Tryz.f34 [(x0, .val)] [])
theorem eq_r03_Kids (R : Orc) (x0 : DV) : P_r03_Kids R x0 =
 (ob (dBin .eql x0 (.int .i64 1)) fun d1 => oif d1 (some (.int .i64 0)) (ob (dBin .eql x0 (.int .i64 2)) fun d2 => oif d2 (some (.int .i64 0)) (ob (dBin .eql x0 (.int .i64 3)) fun d3 => oif d3 (some (.int .i64 0)) (ob (dBin .eql x0 (.int .i64 4)) fun d4 => oif d4 (some (.int .i64 0)) (ob (dBin .eql x0 (.int .i64 5)) fun d5 => oif d5 (some (.int .i64 0)) (ob (dBin .eql x0 (.int .i64 6)) fun d6 => oif d6 (some (.int .i64 0)) (ob (dBin .eql x0 (.int .i64 8)) fun d7 => oif d7 (some (.int .i64 1)) (ob (dBin .eql x0 (.int .i64 7)) fun d8 => oif d8 (some (.int .i64 2)) (ob (dBin .eql x0 (.int .i64 9)) fun d9 => oif d9 (some (.int .i64 2)) (some (.int .i64 (-1)))))))))))) := evP_of [] (by kernel_rfl)
theorem call_r03_Kids (x0 : DV) {d : DV} (h : P_r03_Kids (run cfg) x0 = some d) : (run cfg).p F_r03_Kids [x0] = some d := callE Tryz.func34 (by kernel_rfl) (by kernel_rfl) (by kernel_rfl) h
noncomputable def code_check_scope_term : Code := Tryz.f35.body.getD .skip
noncomputable def P_check_scope_term (R : Orc) (x0 : Nat) (x1 x2 : DV) (sg : List SObj) : Option (List DV × List SObj) := evP cfg R fl_check_scope_term (retR cfg.P Tryz.f35 sig_check_scope_term) [] code_check_scope_term (initSt Tryz.f35 [(.undef, (.map x0)), (x1, .val), (x2, .val)] sg)
noncomputable def P_check_scope_term_8 (R : Orc) (b4 : DV) (sg : List SObj) : Option (List DV × List SObj) := evP cfg R fl_check_scope_term (retR cfg.P Tryz.f35 sig_check_scope_term) [true, false, true, false, true, true, true, false] code_check_scope_term (mst 120 [] [(4, (.loc 4 0)), (6, (.loc 6 0))] [(4, some (bxs b4 0 20)), (6, some zb1)] sg)
set_option maxRecDepth 100000 in
theorem eq_check_scope_term (R : Orc) (x0 : Nat) (x1 x2 : DV) (sg : List SObj) : P_check_scope_term R x0 x1 x2 sg =
 (og (isAggN 20 x1) <| ob (dBin .eql (proj 0 x1) (.int .i64 1)) fun d1 => oif d1 (ob (R.r F_check_scope_name [(.undef, (.map x0)), ((ag20 x1), .val), (x2, .val)] sg) fun q2 => ob (dExt 0 (.tup q2.1)) fun d3 => ob (dExt 1 (.tup q2.1)) fun d4 => og (isAggN 3 d3) <| some ([(ag3 d3), d4], q2.2)) (ob (dBin .eql (proj 0 x1) (.int .i64 2)) fun d5 => oif d5 (P_check_scope_term_8 R x1 sg) (ob (dBin .eql (proj 0 x1) (.int .i64 3)) fun d6 => oif d6 (P_check_scope_term_8 R x1 sg) (ob (dBin .eql (proj 0 x1) (.int .i64 4)) fun d7 => oif d7 (P_check_scope_term_8 R x1 sg) (ob (dBin .eql (proj 0 x1) (.int .i64 5)) fun d8 => oif d8 (P_check_scope_term_8 R x1 sg) (ob (dBin .eql (proj 0 x1) (.int .i64 7)) fun d9 => oif d9 (ob (R.r F_check_scope_has [(.undef, (.map x0)), ((.list 3 [(.agg [(proj 11 x1), (proj 12 x1), (proj 13 x1)])]), .val)] sg) fun q10 => ob (dUn .not (q10.1.getD 0 .undef)) fun d11 => oif d11 (some ([(.agg [(.int .i64 0), (.int .i64 0), (.list 3 [])]), (.int .i64 6)], q10.2)) (some ([(.agg [(.int .i64 8), (.int .i64 0), (.list 3 [(.agg [(proj 11 x1), (proj 12 x1), (proj 13 x1)])])]), (.int .i64 0)], q10.2))) (ob (dBin .eql (proj 0 x1) (.int .i64 9)) fun d12 => oif d12 (ob (R.r F_check_scope_has [(.undef, (.map x0)), ((.list 3 [(.agg [(proj 11 x1), (proj 12 x1), (proj 13 x1)])]), .val)] sg) fun q13 =>
 ob (dUn .not (q13.1.getD 0 .undef)) fun d14 => oif d14 (some ([(.agg [(.int .i64 0), (.int .i64 0), (.list 3 [])]), (.int .i64 6)], q13.2)) (ob (dIdx 20 (proj 19 x1) (.int .i64 0)) fun d15 => og (isCell (proj 3 x1)) <| ob (R.r F_check_with [(x2, .val), ((.list 5 [(.agg [(proj 3 x1), (proj 11 x1), (proj 12 x1), (proj 13 x1), (.list 1 [])])]), .val)] q13.2) fun q16 => ob (R.r F_check_scope_term [(.undef, (.map x0)), ((ag20 d15), .val), ((q16.1.getD 0 .undef), .val)] q16.2) fun q17 => ob (dExt 0 (.tup q17.1)) fun d18 => ob (dExt 1 (.tup q17.1)) fun d19 => og (isAggN 3 d18) <| ob (dBin .neq d19 (.int .i64 0)) fun d20 => oif d20 (some ([(.agg [(.int .i64 0), (.int .i64 0), (.list 3 [])]), d19], q17.2)) (ob (R.p F_check_fun [(.agg [(proj 11 x1), (proj 12 x1), (proj 13 x1)]), (ag3 d18)]) fun d21 => og (isAggN 3 d21) <| some ([(ag3 d21), (.int .i64 0)], q17.2)))) (ob (dBin .eql (proj 0 x1) (.int .i64 11)) fun d22 => oif d22 (ob (R.r F_check_scope_let [(.undef, (.map x0)), ((ag20 x1), .val), (x2, .val)] sg) fun q23 => ob (dExt 0 (.tup q23.1)) fun d24 => ob (dExt 1 (.tup q23.1)) fun d25 => og (isAggN 3 d24) <| some ([(ag3 d24), d25], q23.2)) (ob (dBin .eql (proj 0 x1) (.int .i64 12)) fun d26 =>
 oif d26 (ob (R.r F_check_scope_rec [(.undef, (.map x0)), ((ag20 x1), .val), (x2, .val)] sg) fun q27 => ob (dExt 0 (.tup q27.1)) fun d28 => ob (dExt 1 (.tup q27.1)) fun d29 => og (isAggN 3 d28) <| some ([(ag3 d28), d29], q27.2)) (ob (dBin .eql (proj 0 x1) (.int .i64 14)) fun d30 => oif d30 (ob (R.r F_check_scope_match [(.undef, (.map x0)), ((ag20 x1), .val), (x2, .val)] sg) fun q31 => ob (dExt 0 (.tup q31.1)) fun d32 => ob (dExt 1 (.tup q31.1)) fun d33 => og (isAggN 3 d32) <| some ([(ag3 d32), d33], q31.2)) (ob (R.r F_check_scope_kids [(.undef, (.map x0)), ((ag20 x1), .val), (x2, .val)] sg) fun q34 => ob (dExt 0 (.tup q34.1)) fun d35 => ob (dExt 1 (.tup q34.1)) fun d36 => ob (dBin .neq d36 (.int .i64 0)) fun d37 => oif d37 (some ([(.agg [(.int .i64 0), (.int .i64 0), (.list 3 [])]), d36], q34.2)) (ob (R.r F_check_scope_of [(.undef, (.map x0)), ((ag20 x1), .val), (d35, .val)] q34.2) fun q38 => ob (dExt 0 (.tup q38.1)) fun d39 => ob (dExt 1 (.tup q38.1)) fun d40 => og (isAggN 3 d39) <| some ([(ag3 d39), d40], q38.2))))))))))))) := evP_of [8] (by kernel_rfl)
theorem eq_check_scope_term_8 (R : Orc) (b4 : DV) (sg : List SObj) : P_check_scope_term_8 R b4 sg =
 (ob (dBin .sub (proj 0 b4) (.int .i64 2)) fun d1 => ob (dBin .add d1 (.int .i64 1)) fun d2 => og (isCell d2) <| some ([(.agg [d2, (.int .i64 0), (.list 3 [])]), (.int .i64 0)], sg)) := evP_of [8] (by kernel_rfl)
theorem fix_check_scope_term (x0 : Nat) (x1 x2 : DV) (sg : List SObj) : (run cfg).r F_check_scope_term [(.undef, (.map x0)), (x1, .val), (x2, .val)] sg = P_check_scope_term (run cfg) x0 x1 x2 sg :=
 (fix_raw (C := cfg) (f := F_check_scope_term) (s := sig_check_scope_term) (fn := Tryz.f35) (c := code_check_scope_term) (by kernel_rfl) Tryz.func35 (by kernel_rfl)).trans (by kernel_rfl)
theorem call_check_scope_term (x0 : Nat) (x1 x2 : DV) (sg : List SObj) {q : List DV × List SObj} (h : P_check_scope_term (run cfg) x0 x1 x2 sg = some q) : (run cfg).r F_check_scope_term [(.undef, (.map x0)), (x1, .val), (x2, .val)] sg = some q := (fix_check_scope_term x0 x1 x2 sg).trans h
noncomputable def P_l19_cast (R : Orc) (x0 x1 x2 : DV) : Option DV := eP Tryz.f36 fl_l19_cast R [] (initSt Tryz.f36 [(x0, .val), (x1, .val), (x2, .val)] [])
theorem eq_l19_cast (R : Orc) (x0 x1 x2 : DV) : P_l19_cast R x0 x1 x2 =
 (og (isAggN 20 x2) <| ob (R.p F_r03_Leaf [x0]) fun d1 => ob (R.p F_r03_Leaf [x1]) fun d2 => og (isAggN 3 d1) <| og (isAggN 3 d2) <| some (.agg [(.int .i64 16), (.int .i64 0), (.int .i64 0), (.str ⟨#[]⟩), (.str ⟨#[]⟩), (.int .i64 0), (.str ⟨#[]⟩), (.int .i64 0), (.int .i64 0), (.bool false), (.list 1 []), (proj 0 d1), (proj 1 d1), (proj 2 d1), (proj 0 d2), (proj 1 d2), (proj 2 d2), (.list 3 []), (.list 7 []), (.list 20 [(ag20 x2)])])) := evP_of [] (by kernel_rfl)
theorem call_l19_cast (x0 x1 x2 : DV) {d : DV} (h : P_l19_cast (run cfg) x0 x1 x2 = some d) : (run cfg).p F_l19_cast [x0, x1, x2] = some d := callE Tryz.func36 (by kernel_rfl) (by kernel_rfl) (by kernel_rfl) h
noncomputable def P_term_right (R : Orc) (x0 : DV) : Option DV := eP Tryz.f37 fl_term_right R [] (initSt Tryz.f37 [(x0, .val)] [])
noncomputable def P_term_right_4h (R : Orc) (t9 t10 t11 : DV) : Option DV := hP Tryz.f37 fl_term_right R [true, true, false, true, false] (mst 19 [(9, t9), (10, t10), (11, t11)] [] [] [])
theorem eq_term_right (R : Orc) (x0 : DV) : P_term_right R x0 =
 (og (isAggN 20 x0) <| ob (R.p F_term_one [(ag20 x0)]) fun d1 => ob (dUn .not d1) fun d2 => oif d2 (some (.bool false)) (ob (dLen (proj 19 x0)) fun d3 => P_term_right_4h R (proj 19 x0) d3 (.int .i64 0))) := evP_of [] (by kernel_rfl)
theorem eq_term_right_4h (R : Orc) (t9 t10 t11 : DV) : P_term_right_4h R t9 t10 t11 =
 (ob (dBin .lss t11 t10) fun d1 => oif d1 (ob (dIdx 20 t9 t11) fun d2 => ob (R.p F_term_right [(ag20 d2)]) fun d3 => ob (dUn .not d3) fun d4 => oif d4 (some (.bool false)) (ob (dBin .add t11 (.int .i64 1)) fun d5 => P_term_right_4h R t9 t10 d5)) (some (.bool true))) := headP_of [] (by kernel_rfl)
theorem call_term_right (x0 : DV) {d : DV} (h : P_term_right (run cfg) x0 = some d) : (run cfg).p F_term_right [x0] = some d := callE Tryz.func37 (by kernel_rfl) (by kernel_rfl) (by kernel_rfl) h
noncomputable def P_term_bindsRight (R : Orc) (x0 : DV) : Option DV := eP Tryz.f38 fl_term_bindsRight R [] (initSt Tryz.f38 [(x0, .val)] [])
theorem eq_term_bindsRight (R : Orc) (x0 : DV) : P_term_bindsRight R x0 =
 (ob (R.p F_scheme_Subst [(.agg [(.int .i64 1), (.int .i64 0), (.list 3 [])]), x0]) fun d1 => ob (dExt 0 d1) fun d2 => ob (dExt 1 d1) fun d3 => og (isAggN 3 d2) <| ob (dBin .eql d3 (.int .i64 0)) fun d4 => some d4) := evP_of [] (by kernel_rfl)
theorem call_term_bindsRight (x0 : DV) {d : DV} (h : P_term_bindsRight (run cfg) x0 = some d) : (run cfg).p F_term_bindsRight [x0] = some d := callE Tryz.func38 (by kernel_rfl) (by kernel_rfl) (by kernel_rfl) h
noncomputable def P_term_types (R : Orc) (x0 x1 : DV) : Option DV := eP Tryz.f39 fl_term_types R [] (initSt Tryz.f39 [(x0, .val), (x1, .val)] [])
noncomputable def P_term_types_3h (R : Orc) (t1 : DV) (t18r3 : Nat) (t19 t20 b2_0 b2_1 b2_2 b2_3 b2_4 b2_5 b2_6 b2_7 b2_8 b2_9 b2_10 b2_11 b2_12 b2_13 b2_14 b2_15 b2_16 : DV) (b2_17r3 : Nat) (b2_18 : DV) (b2_19r3 : Nat) (sg : List SObj) : Option DV := hP Tryz.f39 fl_term_types R [true, true, false, true, false] (mst 69 [(1, t1), (19, t19), (20, t20)] [(2, (.loc 2 0)), (4, (.loc 4 0)), (18, (.arr 0 3 0 t18r3))] [(2, some [(b2_0, .val), (b2_1, .val), (b2_2, .val), (b2_3, .val), (b2_4, .val), (b2_5, .val), (b2_6, .val), (b2_7, .val), (b2_8, .val), (b2_9, .val), (b2_10, .val), (b2_11, .val), (b2_12, .val), (b2_13, .val), (b2_14, .val), (b2_15, .val), (b2_16, .val), (.undef, (.arr 0 3 0 b2_17r3)), (b2_18, .val), (.undef, (.arr 1 20 0 b2_19r3))]), (4, some zb0)] sg)
noncomputable def P_term_types_8h (R : Orc) (t1 : DV) (t34r3 : Nat) (t35 t36 b2_0 b2_1 b2_2 b2_3 b2_4 b2_5 b2_6 b2_7 b2_8 b2_9 b2_10 b2_11 b2_12 b2_13 b2_14 b2_15 b2_16 : DV) (b2_17r3 : Nat) (b2_18 : DV) (b2_19r3 : Nat) (sg : List SObj) : Option DV := hP Tryz.f39 fl_term_types R [true, true, true, false, true, false] (mst 69 [(1, t1), (35, t35), (36, t36)] [(2, (.loc 2 0)), (4, (.loc 4 0)), (34, (.arr 1 20 0 t34r3))] [(2, some [(b2_0, .val), (b2_1, .val), (b2_2, .val), (b2_3, .val), (b2_4, .val), (b2_5, .val), (b2_6, .val), (b2_7, .val), (b2_8, .val), (b2_9, .val), (b2_10, .val), (b2_11, .val), (b2_12, .val), (b2_13, .val), (b2_14, .val), (b2_15, .val), (b2_16, .val), (.undef, (.arr 0 3 0 b2_17r3)), (b2_18, .val), (.undef, (.arr 1 20 0 b2_19r3))]), (4, some zb0)] sg)
noncomputable def P_term_types_14 (R : Orc) (t1 b2_0 b2_1 b2_2 b2_3 b2_4 b2_5 b2_6 b2_7 b2_8 b2_9 b2_10 b2_11 b2_12 b2_13 b2_14 b2_15 b2_16 : DV) (b2_17r3 : Nat) (b2_18 : DV) (b2_19r3 : Nat) (sg : List SObj) : Option DV := eP Tryz.f39 fl_term_types R [true, true, true, true, true] (mst 69 [(1, t1)] [(2, (.loc 2 0)), (4, (.loc 4 0))] [(2, some [(b2_0, .val), (b2_1, .val), (b2_2, .val), (b2_3, .val), (b2_4, .val), (b2_5, .val), (b2_6, .val), (b2_7, .val), (b2_8, .val), (b2_9, .val), (b2_10, .val), (b2_11, .val), (b2_12, .val), (b2_13, .val), (b2_14, .val), (b2_15, .val), (b2_16, .val), (.undef, (.arr 0 3 0 b2_17r3)), (b2_18, .val), (.undef, (.arr 1 20 0 b2_19r3))]), (4, some zb0)] sg)
theorem eq_term_types (R : Orc) (x0 x1 : DV) : P_term_types R x0 x1 =
 (og (isAggN 20 x0) <| ob (dList (proj 17 x0)) fun p1 => og (true && p1.1 == 3 && decide (p1.2.length ≤ lim)) <| ob (dList (proj 19 x0)) fun p2 => og (true && p2.1 == 20 && decide (p2.2.length ≤ lim)) <| P_term_types_3h R x1 (p1.2.length) (.int .i64 p1.2.length) (.int .i64 0) (proj 0 x0) (proj 1 x0) (proj 2 x0) (proj 3 x0) (proj 4 x0) (proj 5 x0) (proj 6 x0) (proj 7 x0) (proj 8 x0) (proj 9 x0) (proj 10 x0) (proj 11 x0) (proj 12 x0) (proj 13 x0) (proj 14 x0) (proj 15 x0) (proj 16 x0) (p1.2.length) (proj 18 x0) (p2.2.length) [.arr 3 p1.2, .arr 20 p2.2]) := evP_of [14] (by kernel_rfl)
theorem eq_term_types_3h (R : Orc) (t1 : DV) (t18r3 : Nat) (t19 t20 b2_0 b2_1 b2_2 b2_3 b2_4 b2_5 b2_6 b2_7 b2_8 b2_9 b2_10 b2_11 b2_12 b2_13 b2_14 b2_15 b2_16 : DV) (b2_17r3 : Nat) (b2_18 : DV) (b2_19r3 : Nat) (sg : List SObj) : P_term_types_3h R t1 t18r3 t19 t20 b2_0 b2_1 b2_2 b2_3 b2_4 b2_5 b2_6 b2_7 b2_8 b2_9 b2_10 b2_11 b2_12 b2_13 b2_14 b2_15 b2_16 b2_17r3 b2_18 b2_19r3 sg =
 (ob (dBin .lss t20 t19) fun d1 => oif d1 (ob (arrIdx 0 t18r3 t20) fun n2 => ob (sgArr sg 0) fun r3 => ob (r3.2[n2]?) fun d4 => og (r3.1 == 3) <| ob (R.p F_term_put [(ag3 d4), t1]) fun d5 => ob (arrIdx 0 b2_17r3 t20) fun n6 => ob (sgArr sg 0) fun r7 => ob (r7.2[n6]?) fun u8 => og (isAggN 3 d5) <| og (r7.1 == 3) <| ob (dBin .add t20 (.int .i64 1)) fun d9 => P_term_types_3h R t1 t18r3 t19 d9 b2_0 b2_1 b2_2 b2_3 b2_4 b2_5 b2_6 b2_7 b2_8 b2_9 b2_10 b2_11 b2_12 b2_13 b2_14 b2_15 b2_16 b2_17r3 b2_18 b2_19r3 (sg.set 0 (.arr 3 (r7.2.set n6 d5)))) (P_term_types_8h R t1 b2_19r3 (.int .i64 b2_19r3) (.int .i64 0) b2_0 b2_1 b2_2 b2_3 b2_4 b2_5 b2_6 b2_7 b2_8 b2_9 b2_10 b2_11 b2_12 b2_13 b2_14 b2_15 b2_16 b2_17r3 b2_18 b2_19r3 sg)) := headP_of [14] (by kernel_rfl)
theorem eq_term_types_8h (R : Orc) (t1 : DV) (t34r3 : Nat) (t35 t36 b2_0 b2_1 b2_2 b2_3 b2_4 b2_5 b2_6 b2_7 b2_8 b2_9 b2_10 b2_11 b2_12 b2_13 b2_14 b2_15 b2_16 : DV) (b2_17r3 : Nat) (b2_18 : DV) (b2_19r3 : Nat) (sg : List SObj) : P_term_types_8h R t1 t34r3 t35 t36 b2_0 b2_1 b2_2 b2_3 b2_4 b2_5 b2_6 b2_7 b2_8 b2_9 b2_10 b2_11 b2_12 b2_13 b2_14 b2_15 b2_16 b2_17r3 b2_18 b2_19r3 sg =
 (ob (dBin .lss t36 t35) fun d1 => oif d1 (ob (arrIdx 0 t34r3 t36) fun n2 => ob (sgArr sg 1) fun r3 => ob (r3.2[n2]?) fun d4 => og (r3.1 == 20) <| ob (R.p F_term_outside [(.agg [b2_0, b2_1, b2_2, b2_3, b2_4, b2_5, b2_6, b2_7, b2_8, b2_9, b2_10, b2_11, b2_12, b2_13, b2_14, b2_15, b2_16, .undef, b2_18, .undef]), t36, t1]) fun d5 => ob (R.p F_term_types [(ag20 d4), d5]) fun d6 => ob (arrIdx 0 b2_19r3 t36) fun n7 => ob (sgArr sg 1) fun r8 => ob (r8.2[n7]?) fun u9 => og (isAggN 20 d6) <| og (r8.1 == 20) <| ob (dBin .add t36 (.int .i64 1)) fun d10 => P_term_types_8h R t1 t34r3 t35 d10 b2_0 b2_1 b2_2 b2_3 b2_4 b2_5 b2_6 b2_7 b2_8 b2_9 b2_10 b2_11 b2_12 b2_13 b2_14 b2_15 b2_16 b2_17r3 b2_18 b2_19r3 (sg.set 1 (.arr 20 (r8.2.set n7 d6)))) (ob (dBin .eql b2_0 (.int .i64 12)) fun d11 => oif d11 (ob (R.p F_term_outside [(.agg [b2_0, b2_1, b2_2, b2_3, b2_4, b2_5, b2_6, b2_7, b2_8, b2_9, b2_10, b2_11, b2_12, b2_13, b2_14, b2_15, b2_16, .undef, b2_18, .undef]), (.int .i64 0), t1]) fun d12 => P_term_types_14 R d12 b2_0 b2_1 b2_2 b2_3 b2_4 b2_5 b2_6 b2_7 b2_8 b2_9 b2_10 b2_11 b2_12 b2_13 b2_14 b2_15 b2_16 b2_17r3 b2_18 b2_19r3 sg) (P_term_types_14 R t1 b2_0 b2_1 b2_2 b2_3 b2_4 b2_5 b2_6 b2_7 b2_8 b2_9 b2_10 b2_11 b2_12 b2_13 b2_14 b2_15 b2_16 b2_17r3 b2_18 b2_19r3 sg))) := headP_of [14] (by kernel_rfl)
theorem eq_term_types_14 (R : Orc) (t1 b2_0 b2_1 b2_2 b2_3 b2_4 b2_5 b2_6 b2_7 b2_8 b2_9 b2_10 b2_11 b2_12 b2_13 b2_14 b2_15 b2_16 : DV) (b2_17r3 : Nat) (b2_18 : DV) (b2_19r3 : Nat) (sg : List SObj) : P_term_types_14 R t1 b2_0 b2_1 b2_2 b2_3 b2_4 b2_5 b2_6 b2_7 b2_8 b2_9 b2_10 b2_11 b2_12 b2_13 b2_14 b2_15 b2_16 b2_17r3 b2_18 b2_19r3 sg =
 (ob (R.p F_term_put [(.agg [b2_11, b2_12, b2_13]), t1]) fun d1 => ob (R.p F_term_put [(.agg [b2_14, b2_15, b2_16]), t1]) fun d2 => og (isAggN 3 d1) <| og (isAggN 3 d2) <| retL [ob (sealCells sg [(b2_0, .val), (b2_1, .val), (b2_2, .val), (b2_3, .val), (b2_4, .val), (b2_5, .val), (b2_6, .val), (b2_7, .val), (b2_8, .val), (b2_9, .val), (b2_10, .val), ((proj 0 d1), .val), ((proj 1 d1), .val), ((proj 2 d1), .val), ((proj 0 d2), .val), ((proj 1 d2), .val), ((proj 2 d2), .val), (.undef, (.arr 0 3 0 b2_17r3)), (b2_18, .val), (.undef, (.arr 1 20 0 b2_19r3))]) fun ds => some (.agg ds)]) := evP_of [14] (by kernel_rfl)
theorem call_term_types (x0 x1 : DV) {d : DV} (h : P_term_types (run cfg) x0 x1 = some d) : (run cfg).p F_term_types [x0, x1] = some d := callE Tryz.func39 (by kernel_rfl) (by kernel_rfl) (by kernel_rfl) h
noncomputable def P_typ_Check (R : Orc) (x0 : DV) : Option DV := eP Tryz.f40 fl_typ_Check R [] (initSt Tryz.f40 [(x0, .val)] [])
theorem eq_typ_Check (R : Orc) (x0 : DV) : P_typ_Check R x0 =
 (og (isAggN 3 x0) <| ob (R.p F_typ_right [(ag3 x0)]) fun d1 => ob (dUn .not d1) fun d2 => oif d2 (some (.int .i64 1)) (some (.int .i64 0))) := evP_of [] (by kernel_rfl)
theorem call_typ_Check (x0 : DV) {d : DV} (h : P_typ_Check (run cfg) x0 = some d) : (run cfg).p F_typ_Check [x0] = some d := callE Tryz.func40 (by kernel_rfl) (by kernel_rfl) (by kernel_rfl) h
noncomputable def code_scheme_put : Code := Tryz.f41.body.getD .skip
noncomputable def P_scheme_put (R : Orc) (x0 x1 : DV) (x2 : Nat) (sg : List SObj) : Option (List DV × List SObj) := evP cfg R fl_scheme_put (retR cfg.P Tryz.f41 sig_scheme_put) [] code_scheme_put (initSt Tryz.f41 [(x0, .val), (x1, .val), (.undef, (.map x2))] sg)
noncomputable def P_scheme_put_10h (R : Orc) (t1 : DV) (t2i : Nat) (t38 t39 t40 b9_0 b9_2 : DV) (sg : List SObj) : Option (List DV × List SObj) := headP cfg R fl_scheme_put (retR cfg.P Tryz.f41 sig_scheme_put) [true, true, true, true, false, true, false] code_scheme_put (mst 55 [(1, t1), (38, t38), (39, t39), (40, t40)] [(2, (.map t2i)), (6, (.loc 6 0)), (9, (.loc 9 0))] [(6, some zb1), (9, some [(b9_0, .val), ((.int .i64 0), .val), (b9_2, .own)])] sg)
theorem eq_scheme_put (R : Orc) (x0 x1 : DV) (x2 : Nat) (sg : List SObj) : P_scheme_put R x0 x1 x2 sg =
 (og (isAggN 3 x0) <| ob (dBin .eql (proj 0 x0) (.int .i64 6)) fun d1 => oif d1 (og (isKey false (proj 1 x0) && true) <| ob (sgMap sg x2) fun m2 => og (m2.1 == false) <| oif (.bool (mGet m2.2 (proj 1 x0)).isSome) (ob (dIdx 4 x1 ((mGet m2.2 (proj 1 x0)).getD (.int .i64 0))) fun d3 => some ([(.agg [(proj 1 d3), (proj 2 d3), (proj 3 d3)])], sg)) (some ([(ag3 x0)], sg))) (ob (dLen (proj 2 x0)) fun d4 => ob (dBin .eql d4 (.int .i64 0)) fun d5 => oif d5 (some ([(ag3 x0)], sg)) (og (isCell (proj 0 x0)) <| ob (dLen (proj 2 x0)) fun d6 => P_scheme_put_10h R x1 x2 (proj 2 x0) d6 (.int .i64 0) (proj 0 x0) (.list 3 []) sg))) := evP_of [] (by kernel_rfl)
theorem eq_scheme_put_10h (R : Orc) (t1 : DV) (t2i : Nat) (t38 t39 t40 b9_0 b9_2 : DV) (sg : List SObj) : P_scheme_put_10h R t1 t2i t38 t39 t40 b9_0 b9_2 sg =
 (ob (dBin .lss t40 t39) fun d1 => oif d1 (ob (dIdx 3 t38 t40) fun d2 => ob (R.r F_scheme_put [((ag3 d2), .val), (t1, .val), (.undef, (.map t2i))] sg) fun q3 => og (isAggN 3 (q3.1.getD 0 .undef)) <| ob (dApp 3 b9_2 (.list 3 [(q3.1.getD 0 .undef)])) fun d4 => ob (dBin .add t40 (.int .i64 1)) fun d5 => P_scheme_put_10h R t1 t2i t38 t39 d5 b9_0 d4 q3.2) (some ([(.agg [b9_0, (.int .i64 0), b9_2])], sg))) := headP_of [] (by kernel_rfl)
theorem fix_scheme_put (x0 x1 : DV) (x2 : Nat) (sg : List SObj) : (run cfg).r F_scheme_put [(x0, .val), (x1, .val), (.undef, (.map x2))] sg = P_scheme_put (run cfg) x0 x1 x2 sg :=
 (fix_raw (C := cfg) (f := F_scheme_put) (s := sig_scheme_put) (fn := Tryz.f41) (c := code_scheme_put) (by kernel_rfl) Tryz.func41 (by kernel_rfl)).trans (by kernel_rfl)
theorem call_scheme_put (x0 x1 : DV) (x2 : Nat) (sg : List SObj) {q : List DV × List SObj} (h : P_scheme_put (run cfg) x0 x1 x2 sg = some q) : (run cfg).r F_scheme_put [(x0, .val), (x1, .val), (.undef, (.map x2))] sg = some q := (fix_scheme_put x0 x1 x2 sg).trans h
noncomputable def P_word_Name (R : Orc) (x0 : DV) : Option DV := eP Tryz.f42 fl_word_Name R [] (initSt Tryz.f42 [(x0, .val)] [])
noncomputable def P_word_Name_4h (R : Orc) (t0 t3 : DV) : Option DV := hP Tryz.f42 fl_word_Name R [true, true, false, true, false] (mst 37 [(0, t0), (3, t3)] [] [] [])
set_option maxRecDepth 100000 in
theorem eq_word_Name (R : Orc) (x0 : DV) : P_word_Name R x0 =
 (ob (dLenS x0) fun d1 => ob (dBin .lss d1 (.int .i64 1)) fun d2 => ogd d2 (some (.bool false)) (ob (dLenS x0) fun d3 => ob (dBin .gtr d3 (.int .i64 32)) fun d4 => ogd d4 (some (.bool false)) (ob (dStrIdx x0 (.int .i64 0)) fun d5 => ob (dBin .lss d5 (.int .u8 97)) fun d6 => ogd d6 (some (.bool false)) (ob (dStrIdx x0 (.int .i64 0)) fun d7 => ob (dBin .gtr d7 (.int .u8 122)) fun d8 => ogd d8 (some (.bool false)) (ob (R.p F_word_Key [x0]) fun d9 => oif d9 (some (.bool false)) (P_word_Name_4h R x0 (.int .i64 1))) none) none) none) none) := evP_of [] (by kernel_rfl)
theorem eq_word_Name_4h (R : Orc) (t0 t3 : DV) : P_word_Name_4h R t0 t3 =
 (ob (dLenS t0) fun d1 => ob (dBin .lss t3 d1) fun d2 => oif d2 (ob (dStrIdx t0 t3) fun d3 => ob (R.p F_word_inner [d3]) fun d4 => ob (dUn .not d4) fun d5 => oif d5 (some (.bool false)) (ob (dBin .add t3 (.int .i64 1)) fun d6 => P_word_Name_4h R t0 d6)) (some (.bool true))) := headP_of [] (by kernel_rfl)
theorem call_word_Name (x0 : DV) {d : DV} (h : P_word_Name (run cfg) x0 = some d) : (run cfg).p F_word_Name [x0] = some d := callE Tryz.func42 (by kernel_rfl) (by kernel_rfl) (by kernel_rfl) h
noncomputable def P_r01_Name (R : Orc) (x0 : DV) : Option DV := eP Tryz.f45 fl_r01_Name R [] (initSt Tryz.f45 [(x0, .val)] [])
noncomputable def P_r01_Name_4h (R : Orc) (t0 t3 : DV) : Option DV := hP Tryz.f45 fl_r01_Name R [true, true, false, true, false] (mst 32 [(0, t0), (3, t3)] [] [] [])
theorem eq_r01_Name (R : Orc) (x0 : DV) : P_r01_Name R x0 =
 (ob (dLenS x0) fun d1 => ob (dBin .lss d1 (.int .i64 1)) fun d2 => ogd d2 (some (.bool false)) (ob (dLenS x0) fun d3 => ob (dBin .gtr d3 (.int .i64 32)) fun d4 => ogd d4 (some (.bool false)) (ob (dStrIdx x0 (.int .i64 0)) fun d5 => ob (R.p F_r01_lower [d5]) fun d6 => ob (dUn .not d6) fun d7 => oif d7 (some (.bool false)) (P_r01_Name_4h R x0 (.int .i64 0))) none) none) := evP_of [] (by kernel_rfl)
theorem eq_r01_Name_4h (R : Orc) (t0 t3 : DV) : P_r01_Name_4h R t0 t3 =
 (ob (dLenS t0) fun d1 => ob (dBin .lss t3 d1) fun d2 => oif d2 (ob (dStrIdx t0 t3) fun d3 => ob (R.p F_r01_part [d3]) fun d4 => ob (dUn .not d4) fun d5 => oif d5 (some (.bool false)) (ob (dBin .add t3 (.int .i64 1)) fun d6 => P_r01_Name_4h R t0 d6)) (ob (R.p F_r01_Key [t0]) fun d7 => ob (dUn .not d7) fun d8 => some d8)) := headP_of [] (by kernel_rfl)
theorem call_r01_Name (x0 : DV) {d : DV} (h : P_r01_Name (run cfg) x0 = some d) : (run cfg).p F_r01_Name [x0] = some d := callE Tryz.func45 (by kernel_rfl) (by kernel_rfl) (by kernel_rfl) h
end Go.Su

/-
 Equations of the program's functions: by program.
-/
namespace Go.Su
open Go.Proofs
set_option linter.unusedVariables false
noncomputable def P_r17_flat (R : Orc) (x0 x1 : DV) : Option DV := eP Tryz.f49 fl_r17_flat R [] (initSt Tryz.f49 [(x0, .val), (x1, .val)] [])
noncomputable def P_r17_flat_3 (R : Orc) (b2 b3 : DV) : Option DV := eP Tryz.f49 fl_r17_flat R [true, true] (mst 153 [] [(2, (.loc 2 0)), (3, (.loc 3 0))] [(2, some (bxs b2 0 20)), (3, some (bxs b3 0 20))] [])
noncomputable def P_r17_flat_6h (R : Orc) (t5 b2 b3 : DV) : Option DV := hP Tryz.f49 fl_r17_flat R [true, true, true, false, true, false] (mst 153 [(5, t5)] [(2, (.loc 2 0)), (3, (.loc 3 0))] [(2, some (bxs b2 0 20)), (3, some (bxs b3 0 20))] [])
noncomputable def P_r17_flat_11h (R : Orc) (t6 b2 b3 : DV) : Option DV := hP Tryz.f49 fl_r17_flat R [true, true, true, true, false, true, false] (mst 153 [(6, t6)] [(2, (.loc 2 0)), (3, (.loc 3 0))] [(2, some (bxs b2 0 20)), (3, some (bxs b3 0 20))] [])
set_option maxRecDepth 100000 in
theorem eq_r17_flat (R : Orc) (x0 x1 : DV) : P_r17_flat R x0 x1 =
 (og (isAggN 20 x0) <| og (isAggN 20 x1) <| ob (dBin .neq (proj 0 x0) (proj 0 x1)) fun d1 => ogd d1 (some (.bool false)) (ob (dEqA [.int, .int] (.agg [(proj 1 x0), (proj 2 x0)]) (.agg [(proj 1 x1), (proj 2 x1)])) fun b2 => ogd (.bool !b2) (some (.bool false)) (ob (dBin .neq (proj 3 x0) (proj 3 x1)) fun d3 => ogd d3 (some (.bool false)) (ob (dBin .neq (proj 4 x0) (proj 4 x1)) fun d4 => ogd d4 (some (.bool false)) (ob (dBin .neq (proj 5 x0) (proj 5 x1)) fun d5 => ogd d5 (some (.bool false)) (ob (dBin .neq (proj 6 x0) (proj 6 x1)) fun d6 => ogd d6 (some (.bool false)) (ob (dBin .neq (proj 7 x0) (proj 7 x1)) fun d7 => ogd d7 (some (.bool false)) (ob (dBin .neq (proj 8 x0) (proj 8 x1)) fun d8 => ogd d8 (some (.bool false)) (ob (dEqB (proj 9 x0) (proj 9 x1)) fun b9 => oif (.bool !b9) (some (.bool false)) (P_r17_flat_3 R x0 x1)) none) none) none) none) none) none) none) none) := evP_of [3] (by kernel_rfl)
set_option maxRecDepth 100000 in
theorem eq_r17_flat_3 (R : Orc) (b2 b3 : DV) : P_r17_flat_3 R b2 b3 =
 (ob (dLen (proj 10 b2)) fun d1 => ob (dLen (proj 10 b3)) fun d2 => ob (dBin .neq d1 d2) fun d3 => ogd d3 (some (.bool false)) (ob (dLen (proj 18 b2)) fun d4 => ob (dLen (proj 18 b3)) fun d5 => ob (dBin .neq d4 d5) fun d6 => ogd d6 (some (.bool false)) (ob (R.p F_r03_SameAll [(proj 17 b2), (proj 17 b3)]) fun d7 => ob (dUn .not d7) fun d8 => ogd d8 (some (.bool false)) (ob (R.p F_r03_Same [(.agg [(proj 11 b2), (proj 12 b2), (proj 13 b2)]), (.agg [(proj 11 b3), (proj 12 b3), (proj 13 b3)])]) fun d9 => ob (dUn .not d9) fun d10 => ogd d10 (some (.bool false)) (ob (R.p F_r03_Same [(.agg [(proj 14 b2), (proj 15 b2), (proj 16 b2)]), (.agg [(proj 14 b3), (proj 15 b3), (proj 16 b3)])]) fun d11 => ob (dUn .not d11) fun d12 => oif d12 (some (.bool false)) (P_r17_flat_6h R (.int .i64 0) b2 b3)) none) none) none) none) := evP_of [3] (by kernel_rfl)
theorem eq_r17_flat_6h (R : Orc) (t5 b2 b3 : DV) : P_r17_flat_6h R t5 b2 b3 =
 (ob (dLen (proj 10 b2)) fun d1 => ob (dBin .lss t5 d1) fun d2 => oif d2 (ob (dIdx 1 (proj 10 b2) t5) fun d3 => og (isLeaf d3) <| ob (dIdx 1 (proj 10 b3) t5) fun d4 => og (isLeaf d4) <| ob (dBin .neq d3 d4) fun d5 => oif d5 (some (.bool false)) (ob (dBin .add t5 (.int .i64 1)) fun d6 => P_r17_flat_6h R d6 b2 b3)) (P_r17_flat_11h R (.int .i64 0) b2 b3)) := headP_of [3] (by kernel_rfl)
theorem eq_r17_flat_11h (R : Orc) (t6 b2 b3 : DV) : P_r17_flat_11h R t6 b2 b3 =
 (ob (dLen (proj 18 b2)) fun d1 => ob (dBin .lss t6 d1) fun d2 => oif d2 (ob (dBin .add t6 (.int .i64 1)) fun d3 => ob (dSlice 7 (proj 18 b2) (some t6) (some d3)) fun d4 => og (isCell d4) <| ob (dBin .add t6 (.int .i64 1)) fun d5 => ob (dSlice 7 (proj 18 b3) (some t6) (some d5)) fun d6 => og (isCell d6) <| ob (R.p F_r05_SameAt [(.agg [(.int .i64 14), (.int .i64 0), (.int .i64 0), (.str ⟨#[]⟩), (.str ⟨#[]⟩), (.int .i64 0), (.str ⟨#[]⟩), (.int .i64 0), (.int .i64 0), (.int .i64 0), (.list 3 []), (.int .i64 0), (.int .i64 0), (.list 3 []), d4, (.list 16 [])]), (.agg [(.int .i64 14), (.int .i64 0), (.int .i64 0), (.str ⟨#[]⟩), (.str ⟨#[]⟩), (.int .i64 0), (.str ⟨#[]⟩), (.int .i64 0), (.int .i64 0), (.int .i64 0), (.list 3 []), (.int .i64 0), (.int .i64 0), (.list 3 []), d6, (.list 16 [])])]) fun d7 => ob (dUn .not d7) fun d8 => oif d8 (some (.bool false)) (ob (dBin .add t6 (.int .i64 1)) fun d9 => P_r17_flat_11h R d9 b2 b3)) (some (.bool true))) := headP_of [3] (by kernel_rfl)
theorem call_r17_flat (x0 x1 : DV) {d : DV} (h : P_r17_flat (run cfg) x0 x1 = some d) : (run cfg).p F_r17_flat [x0, x1] = some d := callE Tryz.func49 (by kernel_rfl) (by kernel_rfl) (by kernel_rfl) h
noncomputable def P_r03_Leaf (R : Orc) (x0 : DV) : Option DV := eP Tryz.f50 fl_r03_Leaf R [] (initSt Tryz.f50 [(x0, .val)] [])
theorem eq_r03_Leaf (R : Orc) (x0 : DV) : P_r03_Leaf R x0 =
 (og (isCell x0) <| some (.agg [x0, (.int .i64 0), (.list 3 [])])) := evP_of [] (by kernel_rfl)
theorem call_r03_Leaf (x0 : DV) {d : DV} (h : P_r03_Leaf (run cfg) x0 = some d) : (run cfg).p F_r03_Leaf [x0] = some d := callE Tryz.func50 (by kernel_rfl) (by kernel_rfl) (by kernel_rfl) h
noncomputable def P_l17_weighPat (R : Orc) (x0 x1 : DV) : Option DV := eP Tryz.f57 fl_l17_weighPat R [] (initSt Tryz.f57 [(x0, .val), (x1, .val)] [])
noncomputable def P_l17_weighPat_5h (R : Orc) (t1 t5 b2 : DV) : Option DV := hP Tryz.f57 fl_l17_weighPat R [true, true, true, false, true, false] (mst 37 [(1, t1), (5, t5)] [(2, (.loc 2 0))] [(2, some (bxs b2 0 7))] [])
theorem eq_l17_weighPat (R : Orc) (x0 x1 : DV) : P_l17_weighPat R x0 x1 =
 (og (isAggN 7 x0) <| ob (dLenS (proj 5 x0)) fun d1 => ob (dBin .gtr d1 (.int .i64 300)) fun d2 => ogd d2 (some (.int .i64 501)) (ob (dLenS (proj 3 x0)) fun d3 => ob (dBin .gtr d3 (.int .i64 300)) fun d4 => oif d4 (some (.int .i64 501)) (ob (dBin .add x1 (.int .i64 1)) fun d5 => P_l17_weighPat_5h R d5 (.int .i64 0) x0)) none) := evP_of [] (by kernel_rfl)
theorem eq_l17_weighPat_5h (R : Orc) (t1 t5 b2 : DV) : P_l17_weighPat_5h R t1 t5 b2 =
 (ob (dLen (proj 6 b2)) fun d1 => ob (dBin .lss t5 d1) fun d2 => ogd d2 (ob (dBin .leq t1 (.int .i64 500)) fun d3 => oif d3 (ob (dIdx 7 (proj 6 b2) t5) fun d4 => ob (R.p F_l17_weighPat [(ag7 d4), t1]) fun d5 => ob (dBin .add t5 (.int .i64 1)) fun d6 => P_l17_weighPat_5h R d5 d6 b2) (some t1)) (some t1) none) := headP_of [] (by kernel_rfl)
theorem call_l17_weighPat (x0 x1 : DV) {d : DV} (h : P_l17_weighPat (run cfg) x0 x1 = some d) : (run cfg).p F_l17_weighPat [x0, x1] = some d := callE Tryz.func57 (by kernel_rfl) (by kernel_rfl) (by kernel_rfl) h
noncomputable def P_r17_bare (R : Orc) (x0 : DV) : Option DV := eP Tryz.f58 fl_r17_bare R [] (initSt Tryz.f58 [(x0, .val)] [])
noncomputable def P_r17_bare_25 (R : Orc) (t9 b1 b4_0 : DV) : Option DV := eP Tryz.f58 fl_r17_bare R [true, true, false, true, false, true, true, true, true, true, true, true, true, true, true, true, true, true, true] (mst 123 [(9, t9)] [(1, (.loc 1 0)), (2, (.loc 2 0)), (4, (.loc 4 0))] [(1, some (bxs b1 0 20)), (2, some zb0), (4, some [(b4_0, .val), ((.int .i64 0), .val), ((.int .i64 0), .val), ((.str ⟨#[]⟩), .val), ((.str ⟨#[]⟩), .val), ((.int .i64 0), .val), ((.str ⟨#[]⟩), .val), ((.int .i64 0), .val), ((.int .i64 0), .val), ((.bool false), .val), ((.list 1 []), .val), ((.int .i64 0), .val), ((.int .i64 0), .val), ((.list 3 []), .val), ((.int .i64 0), .val), ((.int .i64 0), .val), ((.list 3 []), .val), ((.list 3 []), .val), ((.list 7 []), .val), ((.list 20 []), .val)])] [])
set_option maxRecDepth 100000 in
theorem eq_r17_bare (R : Orc) (x0 : DV) : P_r17_bare R x0 =
 (og (isAggN 20 x0) <| og (isCell (proj 0 x0)) <| ob (dBin .eql (proj 0 x0) (.int .i64 1)) fun d1 => oif d1 (og (isCell (proj 3 x0)) <| og (isCell (proj 17 x0)) <| some (.tup [(.agg [(proj 0 x0), (.int .i64 0), (.int .i64 0), (proj 3 x0), (.str ⟨#[]⟩), (.int .i64 0), (.str ⟨#[]⟩), (.int .i64 0), (.int .i64 0), (.bool false), (.list 1 []), (.int .i64 0), (.int .i64 0), (.list 3 []), (.int .i64 0), (.int .i64 0), (.list 3 []), (proj 17 x0), (.list 7 []), (.list 20 [])]), (.int .i64 0)])) (ob (dBin .eql (proj 0 x0) (.int .i64 2)) fun d2 => oif d2 (og (isCell (proj 5 x0)) <| some (.tup [(.agg [(proj 0 x0), (.int .i64 0), (.int .i64 0), (.str ⟨#[]⟩), (.str ⟨#[]⟩), (proj 5 x0), (.str ⟨#[]⟩), (.int .i64 0), (.int .i64 0), (.bool false), (.list 1 []), (.int .i64 0), (.int .i64 0), (.list 3 []), (.int .i64 0), (.int .i64 0), (.list 3 []), (.list 3 []), (.list 7 []), (.list 20 [])]), (.int .i64 0)])) (ob (dBin .eql (proj 0 x0) (.int .i64 3)) fun d3 => oif d3 (og (isCell (proj 5 x0)) <| some (.tup [(.agg [(proj 0 x0), (.int .i64 0), (.int .i64 0), (.str ⟨#[]⟩), (.str ⟨#[]⟩), (proj 5 x0), (.str ⟨#[]⟩), (.int .i64 0), (.int .i64 0), (.bool false), (.list 1 []), (.int .i64 0), (.int .i64 0), (.list 3 []), (.int .i64 0), (.int .i64 0), (.list 3 []), (.list 3 []), (.list 7 []), (.list 20 [])]), (.int .i64 0)])) (ob (dBin .eql (proj 0 x0) (.int .i64 4)) fun d4 =>
 oif d4 (og (isCell (proj 6 x0)) <| some (.tup [(.agg [(proj 0 x0), (.int .i64 0), (.int .i64 0), (.str ⟨#[]⟩), (.str ⟨#[]⟩), (.int .i64 0), (proj 6 x0), (.int .i64 0), (.int .i64 0), (.bool false), (.list 1 []), (.int .i64 0), (.int .i64 0), (.list 3 []), (.int .i64 0), (.int .i64 0), (.list 3 []), (.list 3 []), (.list 7 []), (.list 20 [])]), (.int .i64 0)])) (ob (dBin .eql (proj 0 x0) (.int .i64 5)) fun d5 => oif d5 (some (.tup [(.agg [(proj 0 x0), (.int .i64 0), (.int .i64 0), (.str ⟨#[]⟩), (.str ⟨#[]⟩), (.int .i64 0), (.str ⟨#[]⟩), (.int .i64 0), (.int .i64 0), (.bool false), (.list 1 []), (.int .i64 0), (.int .i64 0), (.list 3 []), (.int .i64 0), (.int .i64 0), (.list 3 []), (.list 3 []), (.list 7 []), (.list 20 [])]), (.int .i64 0)])) (ob (dBin .eql (proj 0 x0) (.int .i64 7)) fun d6 => oif d6 (some (.tup [(.agg [(proj 0 x0), (.int .i64 0), (.int .i64 0), (.str ⟨#[]⟩), (.str ⟨#[]⟩), (.int .i64 0), (.str ⟨#[]⟩), (.int .i64 0), (.int .i64 0), (.bool false), (.list 1 []), (proj 11 x0), (proj 12 x0), (proj 13 x0), (.int .i64 0), (.int .i64 0), (.list 3 []), (.list 3 []), (.list 7 []), (.list 20 [])]), (.int .i64 0)])) (ob (dBin .eql (proj 0 x0) (.int .i64 6)) fun d7 => oif d7 (some (.tup [(.agg [(proj 0 x0), (.int .i64 0), (.int .i64 0), (.str ⟨#[]⟩), (.str ⟨#[]⟩), (.int .i64 0), (.str ⟨#[]⟩), (.int .i64 0), (.int .i64 0), (.bool false), (.list 1 []), (.int .i64 0), (.int .i64 0), (.list 3 []), (.int .i64 0), (.int .i64 0), (.list 3 []), (.list 3 []), (.list 7 []), (.list 20 [])]), (.int .i64 2)])) (ob (dBin .eql (proj 0 x0) (.int .i64 8)) fun d8 =>
 oif d8 (some (.tup [(.agg [(proj 0 x0), (.int .i64 0), (.int .i64 0), (.str ⟨#[]⟩), (.str ⟨#[]⟩), (.int .i64 0), (.str ⟨#[]⟩), (.int .i64 0), (.int .i64 0), (.bool false), (.list 1 []), (.int .i64 0), (.int .i64 0), (.list 3 []), (.int .i64 0), (.int .i64 0), (.list 3 []), (.list 3 []), (.list 7 []), (.list 20 [])]), (.int .i64 2)])) (ob (dBin .eql (proj 0 x0) (.int .i64 10)) fun d9 => oif d9 (some (.tup [(.agg [(proj 0 x0), (.int .i64 0), (.int .i64 0), (.str ⟨#[]⟩), (.str ⟨#[]⟩), (.int .i64 0), (.str ⟨#[]⟩), (.int .i64 0), (.int .i64 0), (.bool false), (.list 1 []), (.int .i64 0), (.int .i64 0), (.list 3 []), (.int .i64 0), (.int .i64 0), (.list 3 []), (.list 3 []), (.list 7 []), (.list 20 [])]), (.int .i64 2)])) (ob (dBin .eql (proj 0 x0) (.int .i64 9)) fun d10 => oif d10 (og (isCell (proj 3 x0)) <| some (.tup [(.agg [(proj 0 x0), (.int .i64 0), (.int .i64 0), (proj 3 x0), (.str ⟨#[]⟩), (.int .i64 0), (.str ⟨#[]⟩), (.int .i64 0), (.int .i64 0), (.bool false), (.list 1 []), (proj 11 x0), (proj 12 x0), (proj 13 x0), (.int .i64 0), (.int .i64 0), (.list 3 []), (.list 3 []), (.list 7 []), (.list 20 [])]), (.int .i64 1)])) (P_r17_bare_25 R (proj 0 x0) x0 (proj 0 x0)))))))))))) := evP_of [25] (by kernel_rfl)
set_option maxRecDepth 100000 in
theorem eq_r17_bare_25 (R : Orc) (t9 b1 b4_0 : DV) : P_r17_bare_25 R t9 b1 b4_0 =
 (ob (dBin .eql t9 (.int .i64 11)) fun d1 => oif d1 (og (isCell (proj 3 b1)) <| og (isCell (proj 10 b1)) <| some (.tup [(.agg [b4_0, (.int .i64 0), (.int .i64 0), (proj 3 b1), (.str ⟨#[]⟩), (.int .i64 0), (.str ⟨#[]⟩), (.int .i64 0), (.int .i64 0), (.bool false), (proj 10 b1), (.int .i64 0), (.int .i64 0), (.list 3 []), (.int .i64 0), (.int .i64 0), (.list 3 []), (.list 3 []), (.list 7 []), (.list 20 [])]), (.int .i64 2)])) (ob (dBin .eql t9 (.int .i64 12)) fun d2 => oif d2 (og (isCell (proj 3 b1)) <| og (isCell (proj 4 b1)) <| og (isCell (proj 10 b1)) <| some (.tup [(.agg [b4_0, (.int .i64 0), (.int .i64 0), (proj 3 b1), (proj 4 b1), (.int .i64 0), (.str ⟨#[]⟩), (.int .i64 0), (.int .i64 0), (.bool false), (proj 10 b1), (proj 11 b1), (proj 12 b1), (proj 13 b1), (proj 14 b1), (proj 15 b1), (proj 16 b1), (.list 3 []), (.list 7 []), (.list 20 [])]), (.int .i64 2)])) (ob (dBin .eql t9 (.int .i64 13)) fun d3 => oif d3 (some (.tup [(.agg [b4_0, (.int .i64 0), (.int .i64 0), (.str ⟨#[]⟩), (.str ⟨#[]⟩), (.int .i64 0), (.str ⟨#[]⟩), (.int .i64 0), (.int .i64 0), (.bool false), (.list 1 []), (.int .i64 0), (.int .i64 0), (.list 3 []), (.int .i64 0), (.int .i64 0), (.list 3 []), (.list 3 []), (.list 7 []), (.list 20 [])]), (.int .i64 3)])) (ob (dBin .eql t9 (.int .i64 14)) fun d4 =>
 oif d4 (og (isCell (proj 18 b1)) <| ob (dLen (proj 18 b1)) fun d5 => ob (dBin .add d5 (.int .i64 1)) fun d6 => some (.tup [(.agg [b4_0, (proj 1 b1), (proj 2 b1), (.str ⟨#[]⟩), (.str ⟨#[]⟩), (.int .i64 0), (.str ⟨#[]⟩), (.int .i64 0), (.int .i64 0), (.bool false), (.list 1 []), (.int .i64 0), (.int .i64 0), (.list 3 []), (.int .i64 0), (.int .i64 0), (.list 3 []), (.list 3 []), (proj 18 b1), (.list 20 [])]), d6])) (ob (dBin .eql t9 (.int .i64 15)) fun d7 => oif d7 (og (isCell (proj 7 b1)) <| some (.tup [(.agg [b4_0, (proj 1 b1), (proj 2 b1), (.str ⟨#[]⟩), (.str ⟨#[]⟩), (.int .i64 0), (.str ⟨#[]⟩), (proj 7 b1), (.int .i64 0), (.bool false), (.list 1 []), (.int .i64 0), (.int .i64 0), (.list 3 []), (.int .i64 0), (.int .i64 0), (.list 3 []), (.list 3 []), (.list 7 []), (.list 20 [])]), (.int .i64 2)])) (ob (dBin .eql t9 (.int .i64 16)) fun d8 => oif d8 (og (isCell (proj 8 b1)) <| og (isCell (proj 9 b1)) <| some (.tup [(.agg [b4_0, (.int .i64 0), (.int .i64 0), (.str ⟨#[]⟩), (.str ⟨#[]⟩), (.int .i64 0), (.str ⟨#[]⟩), (.int .i64 0), (proj 8 b1), (proj 9 b1), (.list 1 []), (proj 11 b1), (proj 12 b1), (proj 13 b1), (proj 14 b1), (proj 15 b1), (proj 16 b1), (.list 3 []), (.list 7 []), (.list 20 [])]), (.int .i64 1)])) (some (.tup [(.agg [b4_0, (.int .i64 0), (.int .i64 0), (.str ⟨#[]⟩), (.str ⟨#[]⟩), (.int .i64 0), (.str ⟨#[]⟩), (.int .i64 0), (.int .i64 0), (.bool false), (.list 1 []), (.int .i64 0), (.int .i64 0), (.list 3 []), (.int .i64 0), (.int .i64 0), (.list 3 []), (.list 3 []), (.list 7 []), (.list 20 [])]), (.int .i64 (-1))])))))))) := evP_of [25] (by kernel_rfl)
theorem call_r17_bare (x0 : DV) {d : DV} (h : P_r17_bare (run cfg) x0 = some d) : (run cfg).p F_r17_bare [x0] = some d := callE Tryz.func58 (by kernel_rfl) (by kernel_rfl) (by kernel_rfl) h
noncomputable def P_r05_RightPat (R : Orc) (x0 : DV) : Option DV := eP Tryz.f59 fl_r05_RightPat R [] (initSt Tryz.f59 [(x0, .val)] [])
noncomputable def P_r05_RightPat_5h (R : Orc) (t3 t4 : DV) : Option DV := hP Tryz.f59 fl_r05_RightPat R [true, true, true, false, true, false] (mst 24 [(3, t3), (4, t4)] [] [] [])
theorem eq_r05_RightPat (R : Orc) (x0 : DV) : P_r05_RightPat R x0 =
 (og (isAggN 7 x0) <| ob (R.p F_r05_pat [(ag7 x0)]) fun d1 => ob (dUn .not d1) fun d2 => oif d2 (some (.bool false)) (ob (R.p F_r05_Names [(ag7 x0)]) fun d3 => P_r05_RightPat_5h R d3 (.int .i64 0))) := evP_of [] (by kernel_rfl)
theorem eq_r05_RightPat_5h (R : Orc) (t3 t4 : DV) : P_r05_RightPat_5h R t3 t4 =
 (ob (dLen t3) fun d1 => ob (dBin .lss t4 d1) fun d2 => oif d2 (ob (dSlice 1 t3 none (some t4)) fun d3 => ob (dIdx 1 t3 t4) fun d4 => og (isLeaf d4) <| ob (R.p F_r05_Has [d3, d4]) fun d5 => oif d5 (some (.bool false)) (ob (dBin .add t4 (.int .i64 1)) fun d6 => P_r05_RightPat_5h R t3 d6)) (some (.bool true))) := headP_of [] (by kernel_rfl)
theorem call_r05_RightPat (x0 : DV) {d : DV} (h : P_r05_RightPat (run cfg) x0 = some d) : (run cfg).p F_r05_RightPat [x0] = some d := callE Tryz.func59 (by kernel_rfl) (by kernel_rfl) (by kernel_rfl) h
noncomputable def P_r17_more (R : Orc) (x0 x1 x2 : DV) : Option DV := eP Tryz.f60 fl_r17_more R [] (initSt Tryz.f60 [(x0, .val), (x1, .val), (x2, .val)] [])
theorem eq_r17_more (R : Orc) (x0 x1 x2 : DV) : P_r17_more R x0 x1 x2 =
 (ob (dApp 2 (.list 2 []) x0) fun d1 => og (isCell x1) <| og (isCell x2) <| ob (dApp 2 d1 (.list 2 [(.agg [x1, x2])])) fun d2 => some d2) := evP_of [] (by kernel_rfl)
theorem call_r17_more (x0 x1 x2 : DV) {d : DV} (h : P_r17_more (run cfg) x0 x1 x2 = some d) : (run cfg).p F_r17_more [x0, x1, x2] = some d := callE Tryz.func60 (by kernel_rfl) (by kernel_rfl) (by kernel_rfl) h
noncomputable def code_r16_Bulk_Of : Code := Tryz.f61.body.getD .skip
noncomputable def P_r16_Bulk_Of (R : Orc) (x0 : Nat) (x1 : DV) (sg : List SObj) : Option (List DV × List SObj) := evP cfg R fl_r16_Bulk_Of (retR cfg.P Tryz.f61 sig_r16_Bulk_Of) [] code_r16_Bulk_Of (initSt Tryz.f61 [(.undef, (.ptr x0 0)), (x1, .val)] sg)
theorem eq_r16_Bulk_Of (R : Orc) (x0 : Nat) (x1 : DV) (sg : List SObj) : P_r16_Bulk_Of R x0 x1 sg =
 (ob (dBin .gtr x1 (.int .i64 3000)) fun d1 => oif d1 (ob (sgBox sg x0) fun c2 => ob (c2[0]?) fun u3 => ob (dMin x1 (.int .i64 3000)) fun d4 => some ([d4], (sg.set x0 (SObj.box (c2.set 0 ((.bool true), .val)))))) (ob (dMin x1 (.int .i64 3000)) fun d5 => some ([d5], sg))) := evP_of [] (by kernel_rfl)
theorem fix_r16_Bulk_Of (x0 : Nat) (x1 : DV) (sg : List SObj) : (run cfg).r F_r16_Bulk_Of [(.undef, (.ptr x0 0)), (x1, .val)] sg = P_r16_Bulk_Of (run cfg) x0 x1 sg :=
 (fix_raw (C := cfg) (f := F_r16_Bulk_Of) (s := sig_r16_Bulk_Of) (fn := Tryz.f61) (c := code_r16_Bulk_Of) (by kernel_rfl) Tryz.func61 (by kernel_rfl)).trans (by kernel_rfl)
theorem call_r16_Bulk_Of (x0 : Nat) (x1 : DV) (sg : List SObj) {q : List DV × List SObj} (h : P_r16_Bulk_Of (run cfg) x0 x1 sg = some q) : (run cfg).r F_r16_Bulk_Of [(.undef, (.ptr x0 0)), (x1, .val)] sg = some q := (fix_r16_Bulk_Of x0 x1 sg).trans h
noncomputable def P_r05_Names (R : Orc) (x0 : DV) : Option DV := eP Tryz.f62 fl_r05_Names R [] (initSt Tryz.f62 [(x0, .val)] [])
theorem eq_r05_Names (R : Orc) (x0 : DV) : P_r05_Names R x0 =
 (og (isAggN 7 x0) <| ob (R.r F_r05_names [((ag7 x0), .val), ((.list 1 []), .own)] []) fun q1 => some (q1.1.getD 0 .undef)) := evP_of [] (by kernel_rfl)
theorem call_r05_Names (x0 : DV) {d : DV} (h : P_r05_Names (run cfg) x0 = some d) : (run cfg).p F_r05_Names [x0] = some d := callE Tryz.func62 (by kernel_rfl) (by kernel_rfl) (by kernel_rfl) h
noncomputable def code_r16_Bulk_Named : Code := Tryz.f63.body.getD .skip
noncomputable def P_r16_Bulk_Named (R : Orc) (x0 : Nat) (x1 x2 x3 : DV) (sg : List SObj) : Option (List DV × List SObj) := evP cfg R fl_r16_Bulk_Named (retR cfg.P Tryz.f63 sig_r16_Bulk_Named) [] code_r16_Bulk_Named (initSt Tryz.f63 [(.undef, (.ptr x0 0)), (x1, .val), (x2, .val), (x3, .val)] sg)
noncomputable def P_r16_Bulk_Named_3h (R : Orc) (t0i : Nat) (t1 t2 t3 t9 t10 : DV) (sg : List SObj) : Option (List DV × List SObj) := headP cfg R fl_r16_Bulk_Named (retR cfg.P Tryz.f63 sig_r16_Bulk_Named) [true, true, false, true, false] code_r16_Bulk_Named (mst 50 [(1, t1), (2, t2), (3, t3), (9, t9), (10, t10)] [(0, (.ptr t0i 0))] [] sg)
noncomputable def P_r16_Bulk_Named_7h (R : Orc) (t0i : Nat) (t1 t2 t9 t11 : DV) (sg : List SObj) : Option (List DV × List SObj) := headP cfg R fl_r16_Bulk_Named (retR cfg.P Tryz.f63 sig_r16_Bulk_Named) [true, true, true, false, true, false] code_r16_Bulk_Named (mst 50 [(1, t1), (2, t2), (9, t9), (11, t11)] [(0, (.ptr t0i 0))] [] sg)
theorem eq_r16_Bulk_Named (R : Orc) (x0 : Nat) (x1 x2 x3 : DV) (sg : List SObj) : P_r16_Bulk_Named R x0 x1 x2 x3 sg =
 (P_r16_Bulk_Named_3h R x0 x1 x2 x3 (.int .i64 1) (.int .i64 0) sg) := evP_of [] (by kernel_rfl)
theorem eq_r16_Bulk_Named_3h (R : Orc) (t0i : Nat) (t1 t2 t3 t9 t10 : DV) (sg : List SObj) : P_r16_Bulk_Named_3h R t0i t1 t2 t3 t9 t10 sg =
 (ob (dLen t3) fun d1 => ob (dBin .lss t10 d1) fun d2 => oif d2 (ob (dIdx 3 t3 t10) fun d3 => ob (R.p F_r03_Size [(ag3 d3)]) fun d4 => ob (R.r F_r16_Bulk_Of [(.undef, (.ptr t0i 0)), (d4, .val)] sg) fun q5 => ob (dMax t9 (q5.1.getD 0 .undef)) fun d6 => ob (dBin .add t10 (.int .i64 1)) fun d7 => P_r16_Bulk_Named_3h R t0i t1 t2 t3 d6 d7 q5.2) (ob (dLen t1) fun d8 => ob (dBin .sub d8 (.int .i64 1)) fun d9 => P_r16_Bulk_Named_7h R t0i t1 t2 t9 d9 sg)) := headP_of [] (by kernel_rfl)
theorem eq_r16_Bulk_Named_7h (R : Orc) (t0i : Nat) (t1 t2 t9 t11 : DV) (sg : List SObj) : P_r16_Bulk_Named_7h R t0i t1 t2 t9 t11 sg =
 (ob (dBin .geq t11 (.int .i64 0)) fun d1 => oif d1 (ob (dIdx 2 t1 t11) fun d2 => ob (dBin .eql (proj 0 d2) t2) fun d3 => oif d3 (ob (dIdx 2 t1 t11) fun d4 => ob (dBin .mul t9 (proj 1 d4)) fun d5 => ob (R.r F_r16_Bulk_Of [(.undef, (.ptr t0i 0)), (d5, .val)] sg) fun q6 => some ([(q6.1.getD 0 .undef)], q6.2)) (ob (dBin .sub t11 (.int .i64 1)) fun d7 => P_r16_Bulk_Named_7h R t0i t1 t2 t9 d7 sg)) (some ([(.int .i64 1)], sg))) := headP_of [] (by kernel_rfl)
theorem fix_r16_Bulk_Named (x0 : Nat) (x1 x2 x3 : DV) (sg : List SObj) : (run cfg).r F_r16_Bulk_Named [(.undef, (.ptr x0 0)), (x1, .val), (x2, .val), (x3, .val)] sg = P_r16_Bulk_Named (run cfg) x0 x1 x2 x3 sg :=
 (fix_raw (C := cfg) (f := F_r16_Bulk_Named) (s := sig_r16_Bulk_Named) (fn := Tryz.f63) (c := code_r16_Bulk_Named) (by kernel_rfl) Tryz.func63 (by kernel_rfl)).trans (by kernel_rfl)
theorem call_r16_Bulk_Named (x0 : Nat) (x1 x2 x3 : DV) (sg : List SObj) {q : List DV × List SObj} (h : P_r16_Bulk_Named (run cfg) x0 x1 x2 x3 sg = some q) : (run cfg).r F_r16_Bulk_Named [(.undef, (.ptr x0 0)), (x1, .val), (x2, .val), (x3, .val)] sg = some q := (fix_r16_Bulk_Named x0 x1 x2 x3 sg).trans h
noncomputable def P_l03_count (R : Orc) (x0 x1 : DV) : Option DV := eP Tryz.f64 fl_l03_count R [] (initSt Tryz.f64 [(x0, .val), (x1, .val)] [])
noncomputable def P_l03_count_3h (R : Orc) (t1 t5 b2 : DV) : Option DV := hP Tryz.f64 fl_l03_count R [true, true, false, true, false] (mst 27 [(1, t1), (5, t5)] [(2, (.loc 2 0))] [(2, some (bxs b2 0 3))] [])
theorem eq_l03_count (R : Orc) (x0 x1 : DV) : P_l03_count R x0 x1 =
 (og (isAggN 3 x0) <| ob (dBin .add x1 (.int .i64 1)) fun d1 => P_l03_count_3h R d1 (.int .i64 0) x0) := evP_of [] (by kernel_rfl)
theorem eq_l03_count_3h (R : Orc) (t1 t5 b2 : DV) : P_l03_count_3h R t1 t5 b2 =
 (ob (dLen (proj 2 b2)) fun d1 => ob (dBin .lss t5 d1) fun d2 => ogd d2 (ob (dBin .leq t1 (.int .i64 600)) fun d3 => oif d3 (ob (dIdx 3 (proj 2 b2) t5) fun d4 => ob (R.p F_l03_count [(ag3 d4), t1]) fun d5 => ob (dBin .add t5 (.int .i64 1)) fun d6 => P_l03_count_3h R d5 d6 b2) (some t1)) (some t1) none) := headP_of [] (by kernel_rfl)
theorem call_l03_count (x0 x1 : DV) {d : DV} (h : P_l03_count (run cfg) x0 x1 = some d) : (run cfg).p F_l03_count [x0, x1] = some d := callE Tryz.func64 (by kernel_rfl) (by kernel_rfl) (by kernel_rfl) h
end Go.Su

/-
 Equations of the program's functions: by program.
-/
namespace Go.Su
open Go.Proofs
set_option linter.unusedVariables false
noncomputable def code_r03_vars : Code := Tryz.f65.body.getD .skip
noncomputable def P_r03_vars (R : Orc) (x0 x1 : DV) (sg : List SObj) : Option (List DV × List SObj) := evP cfg R fl_r03_vars (retR cfg.P Tryz.f65 sig_r03_vars) [] code_r03_vars (initSt Tryz.f65 [(x0, .val), (x1, .own)] sg)
noncomputable def P_r03_vars_3 (R : Orc) (t1 b2 : DV) (sg : List SObj) : Option (List DV × List SObj) := evP cfg R fl_r03_vars (retR cfg.P Tryz.f65 sig_r03_vars) [true, true] code_r03_vars (mst 36 [(1, t1)] [(1, .own), (2, (.loc 2 0))] [(2, some (bxs b2 0 3))] sg)
noncomputable def P_r03_vars_4h (R : Orc) (t1 t5 b2 : DV) (sg : List SObj) : Option (List DV × List SObj) := headP cfg R fl_r03_vars (retR cfg.P Tryz.f65 sig_r03_vars) [true, true, false, true, false] code_r03_vars (mst 36 [(1, t1), (5, t5)] [(1, .own), (2, (.loc 2 0))] [(2, some (bxs b2 0 3))] sg)
theorem eq_r03_vars (R : Orc) (x0 x1 : DV) (sg : List SObj) : P_r03_vars R x0 x1 sg =
 (og (isAggN 3 x0) <| ob (dBin .eql (proj 0 x0) (.int .i64 6)) fun d1 => ogd d1 (ob (R.p F_r03_In [x1, (proj 1 x0)]) fun d2 => ob (dUn .not d2) fun d3 => oif d3 (og (isCell (proj 1 x0)) <| ob (dApp 1 x1 (.list 1 [(proj 1 x0)])) fun d4 => P_r03_vars_3 R d4 x0 sg) (P_r03_vars_3 R x1 x0 sg)) (P_r03_vars_3 R x1 x0 sg) none) := evP_of [3] (by kernel_rfl)
theorem eq_r03_vars_3 (R : Orc) (t1 b2 : DV) (sg : List SObj) : P_r03_vars_3 R t1 b2 sg =
 (P_r03_vars_4h R t1 (.int .i64 0) b2 sg) := evP_of [3] (by kernel_rfl)
theorem eq_r03_vars_4h (R : Orc) (t1 t5 b2 : DV) (sg : List SObj) : P_r03_vars_4h R t1 t5 b2 sg =
 (ob (dLen (proj 2 b2)) fun d1 => ob (dBin .lss t5 d1) fun d2 => oif d2 (ob (dIdx 3 (proj 2 b2) t5) fun d3 => ob (R.r F_r03_vars [((ag3 d3), .val), (t1, .own)] sg) fun q4 => ob (dBin .add t5 (.int .i64 1)) fun d5 => P_r03_vars_4h R (q4.1.getD 0 .undef) d5 b2 q4.2) (some ([t1], sg))) := headP_of [3] (by kernel_rfl)
theorem fix_r03_vars (x0 x1 : DV) (sg : List SObj) : (run cfg).r F_r03_vars [(x0, .val), (x1, .own)] sg = P_r03_vars (run cfg) x0 x1 sg :=
 (fix_raw (C := cfg) (f := F_r03_vars) (s := sig_r03_vars) (fn := Tryz.f65) (c := code_r03_vars) (by kernel_rfl) Tryz.func65 (by kernel_rfl)).trans (by kernel_rfl)
theorem call_r03_vars (x0 x1 : DV) (sg : List SObj) {q : List DV × List SObj} (h : P_r03_vars (run cfg) x0 x1 sg = some q) : (run cfg).r F_r03_vars [(x0, .val), (x1, .own)] sg = some q := (fix_r03_vars x0 x1 sg).trans h
noncomputable def code_check_scope_name : Code := Tryz.f66.body.getD .skip
noncomputable def P_check_scope_name (R : Orc) (x0 : Nat) (x1 x2 : DV) (sg : List SObj) : Option (List DV × List SObj) := evP cfg R fl_check_scope_name (retR cfg.P Tryz.f66 sig_check_scope_name) [] code_check_scope_name (initSt Tryz.f66 [(.undef, (.map x0)), (x1, .val), (x2, .val)] sg)
noncomputable def P_check_scope_name_2h (R : Orc) (t0i : Nat) (t2 t8 b4 : DV) (sg : List SObj) : Option (List DV × List SObj) := headP cfg R fl_check_scope_name (retR cfg.P Tryz.f66 sig_check_scope_name) [true, false, true, false] code_check_scope_name (mst 79 [(2, t2), (8, t8)] [(0, (.map t0i)), (4, (.loc 4 0)), (6, (.loc 6 0))] [(4, some (bxs b4 0 20)), (6, some zb1)] sg)
noncomputable def P_check_scope_name_14h (R : Orc) (t10 t54 t55 t56 b4 b9 : DV) (sg : List SObj) : Option (List DV × List SObj) := headP cfg R fl_check_scope_name (retR cfg.P Tryz.f66 sig_check_scope_name) [true, false, true, false, false, true, false, false, true, true, true, false, true, false] code_check_scope_name (mst 79 [(10, t10), (54, t54), (55, t55), (56, t56)] [(4, (.loc 4 0)), (6, (.loc 6 0)), (9, (.loc 9 0)), (10, .own)] [(4, some (bxs b4 0 20)), (6, some zb1), (9, some (bxs b9 0 5))] sg)
theorem eq_check_scope_name (R : Orc) (x0 : Nat) (x1 x2 : DV) (sg : List SObj) : P_check_scope_name R x0 x1 x2 sg =
 (og (isAggN 20 x1) <| ob (dLen x2) fun d1 => ob (dBin .sub d1 (.int .i64 1)) fun d2 => P_check_scope_name_2h R x0 x2 d2 x1 sg) := evP_of [] (by kernel_rfl)
theorem eq_check_scope_name_2h (R : Orc) (t0i : Nat) (t2 t8 b4 : DV) (sg : List SObj) : P_check_scope_name_2h R t0i t2 t8 b4 sg =
 (ob (dBin .geq t8 (.int .i64 0)) fun d1 => oif d1 (ob (dIdx 5 t2 t8) fun d2 => ob (dBin .neq (proj 0 d2) (proj 3 b4)) fun d3 => oif d3 (ob (dBin .sub t8 (.int .i64 1)) fun d4 => P_check_scope_name_2h R t0i t2 d4 b4 sg) (ob (dLen (proj 4 d2)) fun d5 => ob (dLen (proj 17 b4)) fun d6 => ob (dBin .neq d5 d6) fun d7 => oif d7 (some ([(.agg [(.int .i64 0), (.int .i64 0), (.list 3 [])]), (.int .i64 8)], sg)) (ob (R.r F_check_scope_has [(.undef, (.map t0i)), ((proj 17 b4), .val)] sg) fun q8 => ob (dUn .not (q8.1.getD 0 .undef)) fun d9 => oif d9 (some ([(.agg [(.int .i64 0), (.int .i64 0), (.list 3 [])]), (.int .i64 6)], q8.2)) (ob (dLen (proj 4 d2)) fun d10 => ob (dBin .eql d10 (.int .i64 0)) fun d11 => oif d11 (some ([(.agg [(proj 1 d2), (proj 2 d2), (proj 3 d2)]), (.int .i64 0)], q8.2)) (ob (dLen (proj 4 d2)) fun d12 => P_check_scope_name_14h R (.list 4 []) (proj 4 d2) d12 (.int .i64 0) b4 d2 q8.2))))) (some ([(.agg [(.int .i64 0), (.int .i64 0), (.list 3 [])]), (.int .i64 6)], sg))) := headP_of [] (by kernel_rfl)
theorem eq_check_scope_name_14h (R : Orc) (t10 t54 t55 t56 b4 b9 : DV) (sg : List SObj) : P_check_scope_name_14h R t10 t54 t55 t56 b4 b9 sg =
 (ob (dBin .lss t56 t55) fun d1 => oif d1 (ob (dIdx 1 t54 t56) fun d2 => og (isLeaf d2) <| ob (dIdx 3 (proj 17 b4) t56) fun d3 => og (isCell d2) <| ob (dApp 4 t10 (.list 4 [(.agg [d2, (proj 0 d3), (proj 1 d3), (proj 2 d3)])])) fun d4 => ob (dBin .add t56 (.int .i64 1)) fun d5 => P_check_scope_name_14h R d4 t54 t55 d5 b4 b9 sg) (ob (R.p F_scheme_Subst [(.agg [(proj 1 b9), (proj 2 b9), (proj 3 b9)]), t10]) fun d6 => ob (dExt 0 d6) fun d7 => ob (dExt 1 d6) fun d8 => og (isAggN 3 d7) <| some ([(ag3 d7), d8], sg))) := headP_of [] (by kernel_rfl)
theorem fix_check_scope_name (x0 : Nat) (x1 x2 : DV) (sg : List SObj) : (run cfg).r F_check_scope_name [(.undef, (.map x0)), (x1, .val), (x2, .val)] sg = P_check_scope_name (run cfg) x0 x1 x2 sg :=
 (fix_raw (C := cfg) (f := F_check_scope_name) (s := sig_check_scope_name) (fn := Tryz.f66) (c := code_check_scope_name) (by kernel_rfl) Tryz.func66 (by kernel_rfl)).trans (by kernel_rfl)
theorem call_check_scope_name (x0 : Nat) (x1 x2 : DV) (sg : List SObj) {q : List DV × List SObj} (h : P_check_scope_name (run cfg) x0 x1 x2 sg = some q) : (run cfg).r F_check_scope_name [(.undef, (.map x0)), (x1, .val), (x2, .val)] sg = some q := (fix_check_scope_name x0 x1 x2 sg).trans h
noncomputable def code_check_scope_has : Code := Tryz.f67.body.getD .skip
noncomputable def P_check_scope_has (R : Orc) (x0 : Nat) (x1 : DV) (sg : List SObj) : Option (List DV × List SObj) := evP cfg R fl_check_scope_has (retR cfg.P Tryz.f67 sig_check_scope_has) [] code_check_scope_has (initSt Tryz.f67 [(.undef, (.map x0)), (x1, .val)] sg)
noncomputable def P_check_scope_has_2h (R : Orc) (t0i : Nat) (t9 t10 t11 : DV) (sg : List SObj) : Option (List DV × List SObj) := headP cfg R fl_check_scope_has (retR cfg.P Tryz.f67 sig_check_scope_has) [true, false, true, false] code_check_scope_has (mst 28 [(9, t9), (10, t10), (11, t11)] [(0, (.map t0i))] [] sg)
noncomputable def P_check_scope_has_5h (R : Orc) (t0i : Nat) (t9 t10 t11 t16 t17 t18 : DV) (sg : List SObj) : Option (List DV × List SObj) := headP cfg R fl_check_scope_has (retR cfg.P Tryz.f67 sig_check_scope_has) [true, false, true, false, false, true, true, false, false, true, true, false] code_check_scope_has (mst 28 [(9, t9), (10, t10), (11, t11), (16, t16), (17, t17), (18, t18)] [(0, (.map t0i))] [] sg)
theorem eq_check_scope_has (R : Orc) (x0 : Nat) (x1 : DV) (sg : List SObj) : P_check_scope_has R x0 x1 sg =
 (ob (dLen x1) fun d1 => P_check_scope_has_2h R x0 x1 d1 (.int .i64 0) sg) := evP_of [] (by kernel_rfl)
theorem eq_check_scope_has_2h (R : Orc) (t0i : Nat) (t9 t10 t11 : DV) (sg : List SObj) : P_check_scope_has_2h R t0i t9 t10 t11 sg =
 (ob (dBin .lss t11 t10) fun d1 => oif d1 (ob (dIdx 3 t9 t11) fun d2 => ob (R.p F_typ_Vars [(ag3 d2)]) fun d3 => ob (dLen d3) fun d4 => P_check_scope_has_5h R t0i t9 t10 t11 d3 d4 (.int .i64 0) sg) (some ([(.bool true)], sg))) := headP_of [] (by kernel_rfl)
theorem eq_check_scope_has_5h (R : Orc) (t0i : Nat) (t9 t10 t11 t16 t17 t18 : DV) (sg : List SObj) : P_check_scope_has_5h R t0i t9 t10 t11 t16 t17 t18 sg =
 (ob (dBin .lss t18 t17) fun d1 => oif d1 (ob (dIdx 1 t16 t18) fun d2 => og (isLeaf d2) <| og (isKey false d2 && true) <| ob (sgMap sg t0i) fun m3 => og (m3.1 == false) <| ob (dBin .eql ((mGet m3.2 d2).getD (.int .i64 0)) (.int .i64 0)) fun d4 => oif d4 (some ([(.bool false)], sg)) (ob (dBin .add t18 (.int .i64 1)) fun d5 => P_check_scope_has_5h R t0i t9 t10 t11 t16 t17 d5 sg)) (ob (dBin .add t11 (.int .i64 1)) fun d6 => P_check_scope_has_2h R t0i t9 t10 d6 sg)) := headP_of [] (by kernel_rfl)
theorem fix_check_scope_has (x0 : Nat) (x1 : DV) (sg : List SObj) : (run cfg).r F_check_scope_has [(.undef, (.map x0)), (x1, .val)] sg = P_check_scope_has (run cfg) x0 x1 sg :=
 (fix_raw (C := cfg) (f := F_check_scope_has) (s := sig_check_scope_has) (fn := Tryz.f67) (c := code_check_scope_has) (by kernel_rfl) Tryz.func67 (by kernel_rfl)).trans (by kernel_rfl)
theorem call_check_scope_has (x0 : Nat) (x1 : DV) (sg : List SObj) {q : List DV × List SObj} (h : P_check_scope_has (run cfg) x0 x1 sg = some q) : (run cfg).r F_check_scope_has [(.undef, (.map x0)), (x1, .val)] sg = some q := (fix_check_scope_has x0 x1 sg).trans h
noncomputable def code_check_with : Code := Tryz.f68.body.getD .skip
noncomputable def P_check_with (R : Orc) (x0 x1 : DV) (sg : List SObj) : Option (List DV × List SObj) := evP cfg R fl_check_with (retR cfg.P Tryz.f68 sig_check_with) [] code_check_with (initSt Tryz.f68 [(x0, .val), (x1, .val)] sg)
theorem eq_check_with (R : Orc) (x0 x1 : DV) (sg : List SObj) : P_check_with R x0 x1 sg =
 (ob (dLen x0) fun d1 => ob (dLen x0) fun d2 => ob (dSlice3 5 x0 none d1 d2) fun d3 => ob (dApp 5 d3 x1) fun d4 => some ([d4], sg)) := evP_of [] (by kernel_rfl)
theorem fix_check_with (x0 x1 : DV) (sg : List SObj) : (run cfg).r F_check_with [(x0, .val), (x1, .val)] sg = P_check_with (run cfg) x0 x1 sg :=
 (fix_raw (C := cfg) (f := F_check_with) (s := sig_check_with) (fn := Tryz.f68) (c := code_check_with) (by kernel_rfl) Tryz.func68 (by kernel_rfl)).trans (by kernel_rfl)
theorem call_check_with (x0 x1 : DV) (sg : List SObj) {q : List DV × List SObj} (h : P_check_with (run cfg) x0 x1 sg = some q) : (run cfg).r F_check_with [(x0, .val), (x1, .val)] sg = some q := (fix_check_with x0 x1 sg).trans h
noncomputable def P_check_fun (R : Orc) (x0 x1 : DV) : Option DV := eP Tryz.f69 fl_check_fun R [] (initSt Tryz.f69 [(x0, .val), (x1, .val)] [])
theorem eq_check_fun (R : Orc) (x0 x1 : DV) : P_check_fun R x0 x1 =
 (og (isAggN 3 x0) <| og (isAggN 3 x1) <| some (.agg [(.int .i64 9), (.int .i64 0), (.list 3 [(ag3 x0), (ag3 x1)])])) := evP_of [] (by kernel_rfl)
theorem call_check_fun (x0 x1 : DV) {d : DV} (h : P_check_fun (run cfg) x0 x1 = some d) : (run cfg).p F_check_fun [x0, x1] = some d := callE Tryz.func69 (by kernel_rfl) (by kernel_rfl) (by kernel_rfl) h
noncomputable def code_check_scope_let : Code := Tryz.f70.body.getD .skip
noncomputable def P_check_scope_let (R : Orc) (x0 : Nat) (x1 x2 : DV) (sg : List SObj) : Option (List DV × List SObj) := evP cfg R fl_check_scope_let (retR cfg.P Tryz.f70 sig_check_scope_let) [] code_check_scope_let (initSt Tryz.f70 [(.undef, (.map x0)), (x1, .val), (x2, .val)] sg)
theorem eq_check_scope_let (R : Orc) (x0 : Nat) (x1 x2 : DV) (sg : List SObj) : P_check_scope_let R x0 x1 x2 sg =
 (og (isAggN 20 x1) <| ob (R.r F_check_scope_takes [(.undef, (.map x0)), ((proj 10 x1), .val)] sg) fun q1 => ob (dUn .not (q1.1.getD 0 .undef)) fun d2 => oif d2 (some ([(.agg [(.int .i64 0), (.int .i64 0), (.list 3 [])]), (.int .i64 6)], q1.2)) (ob (R.r F_check_scope_enter [(.undef, (.map x0)), ((proj 10 x1), .val), ((.int .i64 1), .val)] q1.2) fun q3 => ob (dIdx 20 (proj 19 x1) (.int .i64 0)) fun d4 => ob (R.r F_check_scope_term [(.undef, (.map x0)), ((ag20 d4), .val), (x2, .val)] q3.2) fun q5 => ob (dExt 0 (.tup q5.1)) fun d6 => ob (dExt 1 (.tup q5.1)) fun d7 => og (isAggN 3 d6) <| ob (R.r F_check_scope_enter [(.undef, (.map x0)), ((proj 10 x1), .val), ((.int .i64 (-1)), .val)] q5.2) fun q8 => ob (dBin .neq d7 (.int .i64 0)) fun d9 => oif d9 (some ([(.agg [(.int .i64 0), (.int .i64 0), (.list 3 [])]), d7], q8.2)) (ob (dIdx 20 (proj 19 x1) (.int .i64 1)) fun d10 => og (isCell (proj 3 x1)) <| og (isCell (proj 10 x1)) <| ob (R.r F_check_with [(x2, .val), ((.list 5 [(.agg [(proj 3 x1), (proj 0 d6), (proj 1 d6), (proj 2 d6), (proj 10 x1)])]), .val)] q8.2) fun q11 => ob (R.r F_check_scope_term [(.undef, (.map x0)), ((ag20 d10), .val), ((q11.1.getD 0 .undef), .val)] q11.2) fun q12 => ob (dExt 0 (.tup q12.1)) fun d13 =>
 ob (dExt 1 (.tup q12.1)) fun d14 => og (isAggN 3 d13) <| some ([(ag3 d13), d14], q12.2)))) := evP_of [] (by kernel_rfl)
theorem fix_check_scope_let (x0 : Nat) (x1 x2 : DV) (sg : List SObj) : (run cfg).r F_check_scope_let [(.undef, (.map x0)), (x1, .val), (x2, .val)] sg = P_check_scope_let (run cfg) x0 x1 x2 sg :=
 (fix_raw (C := cfg) (f := F_check_scope_let) (s := sig_check_scope_let) (fn := Tryz.f70) (c := code_check_scope_let) (by kernel_rfl) Tryz.func70 (by kernel_rfl)).trans (by kernel_rfl)
theorem call_check_scope_let (x0 : Nat) (x1 x2 : DV) (sg : List SObj) {q : List DV × List SObj} (h : P_check_scope_let (run cfg) x0 x1 x2 sg = some q) : (run cfg).r F_check_scope_let [(.undef, (.map x0)), (x1, .val), (x2, .val)] sg = some q := (fix_check_scope_let x0 x1 x2 sg).trans h
noncomputable def code_check_scope_rec : Code := Tryz.f71.body.getD .skip
noncomputable def P_check_scope_rec (R : Orc) (x0 : Nat) (x1 x2 : DV) (sg : List SObj) : Option (List DV × List SObj) := evP cfg R fl_check_scope_rec (retR cfg.P Tryz.f71 sig_check_scope_rec) [] code_check_scope_rec (initSt Tryz.f71 [(.undef, (.map x0)), (x1, .val), (x2, .val)] sg)
noncomputable def P_check_scope_rec_10 (R : Orc) (t0i : Nat) (t2 t11 b4 b9_0 b9_1 b9_2 b9_3 b10_0 b10_1 b10_2 : DV) (sg : List SObj) : Option (List DV × List SObj) := evP cfg R fl_check_scope_rec (retR cfg.P Tryz.f71 sig_check_scope_rec) [true, true, true, true, true, true, true, true] code_check_scope_rec (mst 87 [(2, t2), (11, t11)] [(0, (.map t0i)), (4, (.loc 4 0)), (6, (.loc 6 0)), (9, (.loc 9 0)), (10, (.loc 10 0))] [(4, some (bxs b4 0 20)), (6, some zb1), (9, some [(b9_0, .val), (b9_1, .val), (b9_2, .val), (b9_3, .val), ((.list 1 []), .val)]), (10, some [(b10_0, .val), (b10_1, .val), (b10_2, .val)])] sg)
theorem eq_check_scope_rec (R : Orc) (x0 : Nat) (x1 x2 : DV) (sg : List SObj) : P_check_scope_rec R x0 x1 x2 sg =
 (og (isAggN 20 x1) <| ob (R.r F_check_scope_takes [(.undef, (.map x0)), ((proj 10 x1), .val)] sg) fun q1 => ob (dUn .not (q1.1.getD 0 .undef)) fun d2 => oif d2 (some ([(.agg [(.int .i64 0), (.int .i64 0), (.list 3 [])]), (.int .i64 6)], q1.2)) (ob (R.r F_check_scope_enter [(.undef, (.map x0)), ((proj 10 x1), .val), ((.int .i64 1), .val)] q1.2) fun q3 => ob (R.r F_check_scope_has [(.undef, (.map x0)), ((.list 3 [(.agg [(proj 11 x1), (proj 12 x1), (proj 13 x1)]), (.agg [(proj 14 x1), (proj 15 x1), (proj 16 x1)])]), .val)] q3.2) fun q4 => ob (R.p F_check_fun [(.agg [(proj 11 x1), (proj 12 x1), (proj 13 x1)]), (.agg [(proj 14 x1), (proj 15 x1), (proj 16 x1)])]) fun d5 => og (isCell (proj 3 x1)) <| og (isAggN 3 d5) <| oif (q4.1.getD 0 .undef) (ob (dIdx 20 (proj 19 x1) (.int .i64 0)) fun d6 => og (isCell (proj 4 x1)) <| ob (R.r F_check_with [(x2, .val), ((.list 5 [(.agg [(proj 3 x1), (proj 0 d5), (proj 1 d5), (proj 2 d5), (.list 1 [])]), (.agg [(proj 4 x1), (proj 11 x1), (proj 12 x1), (proj 13 x1), (.list 1 [])])]), .val)] q4.2) fun q7 => ob (R.r F_check_scope_term [(.undef, (.map x0)), ((ag20 d6), .val), ((q7.1.getD 0 .undef), .val)] q7.2) fun q8 => ob (dExt 0 (.tup q8.1)) fun d9 => ob (dExt 1 (.tup q8.1)) fun d10 =>
 og (isAggN 3 d9) <| P_check_scope_rec_10 R x0 x2 d10 x1 (proj 3 x1) (proj 0 d5) (proj 1 d5) (proj 2 d5) (proj 0 d9) (proj 1 d9) (proj 2 d9) q8.2) (P_check_scope_rec_10 R x0 x2 (.int .i64 6) x1 (proj 3 x1) (proj 0 d5) (proj 1 d5) (proj 2 d5) (.int .i64 0) (.int .i64 0) (.list 3 []) q4.2))) := evP_of [10] (by kernel_rfl)
theorem eq_check_scope_rec_10 (R : Orc) (t0i : Nat) (t2 t11 b4 b9_0 b9_1 b9_2 b9_3 b10_0 b10_1 b10_2 : DV) (sg : List SObj) : P_check_scope_rec_10 R t0i t2 t11 b4 b9_0 b9_1 b9_2 b9_3 b10_0 b10_1 b10_2 sg =
 (ob (R.r F_check_scope_enter [(.undef, (.map t0i)), ((proj 10 b4), .val), ((.int .i64 (-1)), .val)] sg) fun q1 => ob (dBin .neq t11 (.int .i64 0)) fun d2 => oif d2 (some ([(.agg [(.int .i64 0), (.int .i64 0), (.list 3 [])]), t11], q1.2)) (ob (R.p F_typ_Same [(.agg [b10_0, b10_1, b10_2]), (.agg [(proj 14 b4), (proj 15 b4), (proj 16 b4)])]) fun d3 => ob (dUn .not d3) fun d4 => oif d4 (some ([(.agg [(.int .i64 0), (.int .i64 0), (.list 3 [])]), (.int .i64 4)], q1.2)) (og (isCell (proj 10 b4)) <| ob (dIdx 20 (proj 19 b4) (.int .i64 1)) fun d5 => ob (R.r F_check_with [(t2, .val), ((.list 5 [(.agg [b9_0, b9_1, b9_2, b9_3, (proj 10 b4)])]), .val)] q1.2) fun q6 => ob (R.r F_check_scope_term [(.undef, (.map t0i)), ((ag20 d5), .val), ((q6.1.getD 0 .undef), .val)] q6.2) fun q7 => ob (dExt 0 (.tup q7.1)) fun d8 => ob (dExt 1 (.tup q7.1)) fun d9 => og (isAggN 3 d8) <| some ([(ag3 d8), d9], q7.2)))) := evP_of [10] (by kernel_rfl)
theorem fix_check_scope_rec (x0 : Nat) (x1 x2 : DV) (sg : List SObj) : (run cfg).r F_check_scope_rec [(.undef, (.map x0)), (x1, .val), (x2, .val)] sg = P_check_scope_rec (run cfg) x0 x1 x2 sg :=
 (fix_raw (C := cfg) (f := F_check_scope_rec) (s := sig_check_scope_rec) (fn := Tryz.f71) (c := code_check_scope_rec) (by kernel_rfl) Tryz.func71 (by kernel_rfl)).trans (by kernel_rfl)
theorem call_check_scope_rec (x0 : Nat) (x1 x2 : DV) (sg : List SObj) {q : List DV × List SObj} (h : P_check_scope_rec (run cfg) x0 x1 x2 sg = some q) : (run cfg).r F_check_scope_rec [(.undef, (.map x0)), (x1, .val), (x2, .val)] sg = some q := (fix_check_scope_rec x0 x1 x2 sg).trans h
noncomputable def code_check_scope_match : Code := Tryz.f72.body.getD .skip
noncomputable def P_check_scope_match (R : Orc) (x0 : Nat) (x1 x2 : DV) (sg : List SObj) : Option (List DV × List SObj) := evP cfg R fl_check_scope_match (retR cfg.P Tryz.f72 sig_check_scope_match) [] code_check_scope_match (initSt Tryz.f72 [(.undef, (.map x0)), (x1, .val), (x2, .val)] sg)
noncomputable def P_check_scope_match_6h (R : Orc) (t0i : Nat) (t2 t34 t35 t36 b4 b8 b10_0 b10_1 b10_2 : DV) (sg : List SObj) : Option (List DV × List SObj) := headP cfg R fl_check_scope_match (retR cfg.P Tryz.f72 sig_check_scope_match) [true, true, true, true, false, true, false] code_check_scope_match (mst 97 [(2, t2), (34, t34), (35, t35), (36, t36)] [(0, (.map t0i)), (4, (.loc 4 0)), (6, (.loc 6 0)), (8, (.loc 8 0)), (10, (.loc 10 0))] [(4, some (bxs b4 0 20)), (6, some zb1), (8, some (bxs b8 0 3)), (10, some [(b10_0, .val), (b10_1, .val), (b10_2, .val)])] sg)
noncomputable def P_check_scope_match_13h (R : Orc) (t0i : Nat) (t2 t11 t15 t34 t35 t36 t53 t54 t55 b4 b8 b10_0 b10_1 b10_2 : DV) (sg : List SObj) : Option (List DV × List SObj) := headP cfg R fl_check_scope_match (retR cfg.P Tryz.f72 sig_check_scope_match) [true, true, true, true, false, true, false, false, true, true, false, false, true, true, true, true, false, true, false] code_check_scope_match (mst 97 [(2, t2), (11, t11), (15, t15), (34, t34), (35, t35), (36, t36), (53, t53), (54, t54), (55, t55)] [(0, (.map t0i)), (4, (.loc 4 0)), (6, (.loc 6 0)), (8, (.loc 8 0)), (10, (.loc 10 0)), (15, .own)] [(4, some (bxs b4 0 20)), (6, some zb1), (8, some (bxs b8 0 3)), (10, some [(b10_0, .val), (b10_1, .val), (b10_2, .val)])] sg)
theorem eq_check_scope_match (R : Orc) (x0 : Nat) (x1 x2 : DV) (sg : List SObj) : P_check_scope_match R x0 x1 x2 sg =
 (og (isAggN 20 x1) <| ob (dIdx 20 (proj 19 x1) (.int .i64 0)) fun d1 => ob (R.r F_check_scope_term [(.undef, (.map x0)), ((ag20 d1), .val), (x2, .val)] sg) fun q2 => ob (dExt 0 (.tup q2.1)) fun d3 => ob (dExt 1 (.tup q2.1)) fun d4 => og (isAggN 3 d3) <| ob (dBin .neq d4 (.int .i64 0)) fun d5 => oif d5 (some ([(.agg [(.int .i64 0), (.int .i64 0), (.list 3 [])]), d4], q2.2)) (ob (dLen (proj 18 x1)) fun d6 => P_check_scope_match_6h R x0 x2 (proj 18 x1) d6 (.int .i64 0) x1 d3 (.int .i64 0) (.int .i64 0) (.list 3 []) q2.2)) := evP_of [] (by kernel_rfl)
theorem eq_check_scope_match_6h (R : Orc) (t0i : Nat) (t2 t34 t35 t36 b4 b8 b10_0 b10_1 b10_2 : DV) (sg : List SObj) : P_check_scope_match_6h R t0i t2 t34 t35 t36 b4 b8 b10_0 b10_1 b10_2 sg =
 (ob (dBin .lss t36 t35) fun d1 => oif d1 (ob (dIdx 7 t34 t36) fun d2 => ob (R.p F_pats_Bind [(ag7 d2), (ag3 b8)]) fun d3 => ob (dExt 0 d3) fun d4 => ob (dExt 1 d3) fun d5 => ob (dBin .neq d5 (.int .i64 0)) fun d6 => oif d6 (some ([(.agg [(.int .i64 0), (.int .i64 0), (.list 3 [])]), d5], sg)) (ob (R.r F_check_with [(t2, .val), ((.list 5 []), .val)] sg) fun q7 => ob (dLen d4) fun d8 => P_check_scope_match_13h R t0i t2 t36 (q7.1.getD 0 .undef) t34 t35 t36 d4 d8 (.int .i64 0) b4 b8 b10_0 b10_1 b10_2 q7.2)) (some ([(.agg [b10_0, b10_1, b10_2]), (.int .i64 0)], sg))) := headP_of [] (by kernel_rfl)
theorem eq_check_scope_match_13h (R : Orc) (t0i : Nat) (t2 t11 t15 t34 t35 t36 t53 t54 t55 b4 b8 b10_0 b10_1 b10_2 : DV) (sg : List SObj) : P_check_scope_match_13h R t0i t2 t11 t15 t34 t35 t36 t53 t54 t55 b4 b8 b10_0 b10_1 b10_2 sg =
 (ob (dBin .lss t55 t54) fun d1 => oif d1 (ob (dIdx 4 t53 t55) fun d2 => og (isCell (proj 0 d2)) <| ob (dApp 5 t15 (.list 5 [(.agg [(proj 0 d2), (proj 1 d2), (proj 2 d2), (proj 3 d2), (.list 1 [])])])) fun d3 => ob (dBin .add t55 (.int .i64 1)) fun d4 => P_check_scope_match_13h R t0i t2 t11 d3 t34 t35 t36 t53 t54 d4 b4 b8 b10_0 b10_1 b10_2 sg) (ob (dBin .add t11 (.int .i64 1)) fun d5 => ob (dIdx 20 (proj 19 b4) d5) fun d6 => ob (R.r F_check_scope_term [(.undef, (.map t0i)), ((ag20 d6), .val), (t15, .val)] sg) fun q7 => ob (dExt 0 (.tup q7.1)) fun d8 => ob (dExt 1 (.tup q7.1)) fun d9 => og (isAggN 3 d8) <| ob (dBin .neq d9 (.int .i64 0)) fun d10 => oif d10 (some ([(.agg [(.int .i64 0), (.int .i64 0), (.list 3 [])]), d9], q7.2)) (ob (dBin .eql t11 (.int .i64 0)) fun d11 => oif d11 (ob (dBin .add t36 (.int .i64 1)) fun d12 => P_check_scope_match_6h R t0i t2 t34 t35 d12 b4 b8 (proj 0 d8) (proj 1 d8) (proj 2 d8) q7.2) (ob (R.p F_typ_Same [(ag3 d8), (.agg [b10_0, b10_1, b10_2])]) fun d13 => ob (dUn .not d13) fun d14 => oif d14 (some ([(.agg [(.int .i64 0), (.int .i64 0), (.list 3 [])]), (.int .i64 4)], q7.2)) (ob (dBin .add t36 (.int .i64 1)) fun d15 => P_check_scope_match_6h R t0i t2 t34 t35 d15 b4 b8 b10_0 b10_1 b10_2 q7.2))))) := headP_of [] (by kernel_rfl)
theorem fix_check_scope_match (x0 : Nat) (x1 x2 : DV) (sg : List SObj) : (run cfg).r F_check_scope_match [(.undef, (.map x0)), (x1, .val), (x2, .val)] sg = P_check_scope_match (run cfg) x0 x1 x2 sg :=
 (fix_raw (C := cfg) (f := F_check_scope_match) (s := sig_check_scope_match) (fn := Tryz.f72) (c := code_check_scope_match) (by kernel_rfl) Tryz.func72 (by kernel_rfl)).trans (by kernel_rfl)
theorem call_check_scope_match (x0 : Nat) (x1 x2 : DV) (sg : List SObj) {q : List DV × List SObj} (h : P_check_scope_match (run cfg) x0 x1 x2 sg = some q) : (run cfg).r F_check_scope_match [(.undef, (.map x0)), (x1, .val), (x2, .val)] sg = some q := (fix_check_scope_match x0 x1 x2 sg).trans h
noncomputable def code_check_scope_kids : Code := Tryz.f73.body.getD .skip
noncomputable def P_check_scope_kids (R : Orc) (x0 : Nat) (x1 x2 : DV) (sg : List SObj) : Option (List DV × List SObj) := evP cfg R fl_check_scope_kids (retR cfg.P Tryz.f73 sig_check_scope_kids) [] code_check_scope_kids (initSt Tryz.f73 [(.undef, (.map x0)), (x1, .val), (x2, .val)] sg)
noncomputable def P_check_scope_kids_3h (R : Orc) (t0i : Nat) (t2 t8 t14 t15 t16 : DV) (sg : List SObj) : Option (List DV × List SObj) := headP cfg R fl_check_scope_kids (retR cfg.P Tryz.f73 sig_check_scope_kids) [true, true, false, true, false] code_check_scope_kids (mst 36 [(2, t2), (8, t8), (14, t14), (15, t15), (16, t16)] [(0, (.map t0i)), (8, .own)] [] sg)
theorem eq_check_scope_kids (R : Orc) (x0 : Nat) (x1 x2 : DV) (sg : List SObj) : P_check_scope_kids R x0 x1 x2 sg =
 (og (isAggN 20 x1) <| ob (dLen (proj 19 x1)) fun d1 => P_check_scope_kids_3h R x0 x2 (.list 3 []) (proj 19 x1) d1 (.int .i64 0) sg) := evP_of [] (by kernel_rfl)
theorem eq_check_scope_kids_3h (R : Orc) (t0i : Nat) (t2 t8 t14 t15 t16 : DV) (sg : List SObj) : P_check_scope_kids_3h R t0i t2 t8 t14 t15 t16 sg =
 (ob (dBin .lss t16 t15) fun d1 => oif d1 (ob (dIdx 20 t14 t16) fun d2 => ob (R.r F_check_scope_term [(.undef, (.map t0i)), ((ag20 d2), .val), (t2, .val)] sg) fun q3 => ob (dExt 0 (.tup q3.1)) fun d4 => ob (dExt 1 (.tup q3.1)) fun d5 => og (isAggN 3 d4) <| ob (dBin .neq d5 (.int .i64 0)) fun d6 => oif d6 (some ([(.list 3 []), d5], q3.2)) (ob (dApp 3 t8 (.list 3 [(ag3 d4)])) fun d7 => ob (dBin .add t16 (.int .i64 1)) fun d8 => P_check_scope_kids_3h R t0i t2 d7 t14 t15 d8 q3.2)) (some ([t8, (.int .i64 0)], sg))) := headP_of [] (by kernel_rfl)
theorem fix_check_scope_kids (x0 : Nat) (x1 x2 : DV) (sg : List SObj) : (run cfg).r F_check_scope_kids [(.undef, (.map x0)), (x1, .val), (x2, .val)] sg = P_check_scope_kids (run cfg) x0 x1 x2 sg :=
 (fix_raw (C := cfg) (f := F_check_scope_kids) (s := sig_check_scope_kids) (fn := Tryz.f73) (c := code_check_scope_kids) (by kernel_rfl) Tryz.func73 (by kernel_rfl)).trans (by kernel_rfl)
theorem call_check_scope_kids (x0 : Nat) (x1 x2 : DV) (sg : List SObj) {q : List DV × List SObj} (h : P_check_scope_kids (run cfg) x0 x1 x2 sg = some q) : (run cfg).r F_check_scope_kids [(.undef, (.map x0)), (x1, .val), (x2, .val)] sg = some q := (fix_check_scope_kids x0 x1 x2 sg).trans h
noncomputable def code_check_scope_of : Code := Tryz.f74.body.getD .skip
noncomputable def P_check_scope_of (R : Orc) (x0 : Nat) (x1 x2 : DV) (sg : List SObj) : Option (List DV × List SObj) := evP cfg R fl_check_scope_of (retR cfg.P Tryz.f74 sig_check_scope_of) [] code_check_scope_of (initSt Tryz.f74 [(.undef, (.map x0)), (x1, .val), (x2, .val)] sg)
noncomputable def P_check_scope_of_13 (R : Orc) (t0i : Nat) (t2 t11 b4 : DV) (sg : List SObj) : Option (List DV × List SObj) := evP cfg R fl_check_scope_of (retR cfg.P Tryz.f74 sig_check_scope_of) [true, false, true, false, true, true, true, true, true, true, true, true] code_check_scope_of (mst 134 [(2, t2), (11, t11)] [(0, (.map t0i)), (4, (.loc 4 0)), (6, (.loc 6 0))] [(4, some (bxs b4 0 20)), (6, some zb1)] sg)
noncomputable def P_check_scope_of_21 (R : Orc) (t2 t8 t9 : DV) (sg : List SObj) : Option (List DV × List SObj) := evP cfg R fl_check_scope_of (retR cfg.P Tryz.f74 sig_check_scope_of) [true, false, true, false, true, true, true, true, true, true, true, true, true, false, true, true] code_check_scope_of (mst 134 [(2, t2), (8, t8), (9, t9)] [(6, (.loc 6 0))] [(6, some zb1)] sg)
set_option maxRecDepth 100000 in
theorem eq_check_scope_of (R : Orc) (x0 : Nat) (x1 x2 : DV) (sg : List SObj) : P_check_scope_of R x0 x1 x2 sg =
 (og (isAggN 20 x1) <| ob (dBin .eql (proj 0 x1) (.int .i64 6)) fun d1 => oif d1 (og (isCell x2) <| some ([(.agg [(.int .i64 7), (.int .i64 0), x2]), (.int .i64 0)], sg)) (ob (dBin .eql (proj 0 x1) (.int .i64 8)) fun d2 => oif d2 (ob (dIdx 3 x2 (.int .i64 1)) fun d3 => ob (dBin .eql (proj 0 d3) (.int .i64 8)) fun d4 => ogd d4 (ob (dIdx 3 x2 (.int .i64 1)) fun d5 => ob (dIdx 3 (proj 2 d5) (.int .i64 0)) fun d6 => ob (dIdx 3 x2 (.int .i64 0)) fun d7 => ob (R.p F_typ_Same [(ag3 d6), (ag3 d7)]) fun d8 => oif d8 (ob (dIdx 3 x2 (.int .i64 1)) fun d9 => some ([(ag3 d9), (.int .i64 0)], sg)) (some ([(.agg [(.int .i64 0), (.int .i64 0), (.list 3 [])]), (.int .i64 4)], sg))) (some ([(.agg [(.int .i64 0), (.int .i64 0), (.list 3 [])]), (.int .i64 4)], sg)) none) (ob (dBin .eql (proj 0 x1) (.int .i64 10)) fun d10 => oif d10 (ob (dIdx 3 x2 (.int .i64 0)) fun d11 => ob (dBin .eql (proj 0 d11) (.int .i64 9)) fun d12 => ogd d12 (ob (dIdx 3 x2 (.int .i64 0)) fun d13 => ob (dIdx 3 (proj 2 d13) (.int .i64 0)) fun d14 => ob (dIdx 3 x2 (.int .i64 1)) fun d15 => ob (R.p F_typ_Same [(ag3 d14), (ag3 d15)]) fun d16 => oif d16 (ob (dIdx 3 x2 (.int .i64 0)) fun d17 => ob (dIdx 3 (proj 2 d17) (.int .i64 1)) fun d18 =>
 some ([(ag3 d18), (.int .i64 0)], sg)) (some ([(.agg [(.int .i64 0), (.int .i64 0), (.list 3 [])]), (.int .i64 4)], sg))) (some ([(.agg [(.int .i64 0), (.int .i64 0), (.list 3 [])]), (.int .i64 4)], sg)) none) (ob (dBin .eql (proj 0 x1) (.int .i64 13)) fun d19 => oif d19 (ob (dIdx 3 x2 (.int .i64 0)) fun d20 => ob (dBin .eql (proj 0 d20) (.int .i64 2)) fun d21 => ogd d21 (ob (dIdx 3 x2 (.int .i64 1)) fun d22 => ob (dIdx 3 x2 (.int .i64 2)) fun d23 => ob (R.p F_typ_Same [(ag3 d22), (ag3 d23)]) fun d24 => oif d24 (ob (dIdx 3 x2 (.int .i64 1)) fun d25 => some ([(ag3 d25), (.int .i64 0)], sg)) (some ([(.agg [(.int .i64 0), (.int .i64 0), (.list 3 [])]), (.int .i64 4)], sg))) (some ([(.agg [(.int .i64 0), (.int .i64 0), (.list 3 [])]), (.int .i64 4)], sg)) none) (P_check_scope_of_13 R x0 x2 (proj 0 x1) x1 sg))))) := evP_of [13, 21] (by kernel_rfl)
set_option maxRecDepth 100000 in
theorem eq_check_scope_of_13 (R : Orc) (t0i : Nat) (t2 t11 b4 : DV) (sg : List SObj) : P_check_scope_of_13 R t0i t2 t11 b4 sg =
 (ob (dBin .eql t11 (.int .i64 15)) fun d1 => oif d1 (ob (dBin .eql (proj 7 b4) (.int .i64 5)) fun d2 => oif d2 (P_check_scope_of_21 R t2 (.int .i64 1) (.int .i64 2) sg) (ob (dBin .eql (proj 7 b4) (.int .i64 6)) fun d3 => oif d3 (P_check_scope_of_21 R t2 (.int .i64 1) (.int .i64 2) sg) (ob (dBin .eql (proj 7 b4) (.int .i64 7)) fun d4 => oif d4 (P_check_scope_of_21 R t2 (.int .i64 3) (.int .i64 2) sg) (P_check_scope_of_21 R t2 (.int .i64 1) (.int .i64 1) sg)))) (ob (dBin .eql t11 (.int .i64 16)) fun d5 => oif d5 (ob (R.r F_check_scope_has [(.undef, (.map t0i)), ((.list 3 [(.agg [(proj 11 b4), (proj 12 b4), (proj 13 b4)]), (.agg [(proj 14 b4), (proj 15 b4), (proj 16 b4)])]), .val)] sg) fun q6 => ob (dUn .not (q6.1.getD 0 .undef)) fun d7 => oif d7 (some ([(.agg [(.int .i64 0), (.int .i64 0), (.list 3 [])]), (.int .i64 6)], q6.2)) (ob (dIdx 3 t2 (.int .i64 0)) fun d8 => ob (R.p F_typ_Same [(ag3 d8), (.agg [(proj 11 b4), (proj 12 b4), (proj 13 b4)])]) fun d9 => ogd d9 (ob (R.p F_agree_Agree [(.agg [(proj 11 b4), (proj 12 b4), (proj 13 b4)]), (.agg [(proj 14 b4), (proj 15 b4), (proj 16 b4)])]) fun d10 => oif d10 (some ([(.agg [(proj 14 b4), (proj 15 b4), (proj 16 b4)]), (.int .i64 0)], q6.2)) (some ([(.agg [(.int .i64 0), (.int .i64 0), (.list 3 [])]), (.int .i64 4)], q6.2))) (some ([(.agg [(.int .i64 0), (.int .i64 0), (.list 3 [])]), (.int .i64 4)], q6.2)) none)) (some ([(.agg [(.int .i64 0), (.int .i64 0), (.list 3 [])]), (.int .i64 4)], sg)))) := evP_of [13, 21] (by kernel_rfl)
theorem eq_check_scope_of_21 (R : Orc) (t2 t8 t9 : DV) (sg : List SObj) : P_check_scope_of_21 R t2 t8 t9 sg =
 (ob (dIdx 3 t2 (.int .i64 0)) fun d1 => ob (dBin .eql (proj 0 d1) t8) fun d2 => ogd d2 (ob (dIdx 3 t2 (.int .i64 1)) fun d3 => ob (dBin .eql (proj 0 d3) t8) fun d4 => oif d4 (og (isCell t9) <| some ([(.agg [t9, (.int .i64 0), (.list 3 [])]), (.int .i64 0)], sg)) (some ([(.agg [(.int .i64 0), (.int .i64 0), (.list 3 [])]), (.int .i64 4)], sg))) (some ([(.agg [(.int .i64 0), (.int .i64 0), (.list 3 [])]), (.int .i64 4)], sg)) none) := evP_of [13, 21] (by kernel_rfl)
theorem fix_check_scope_of (x0 : Nat) (x1 x2 : DV) (sg : List SObj) : (run cfg).r F_check_scope_of [(.undef, (.map x0)), (x1, .val), (x2, .val)] sg = P_check_scope_of (run cfg) x0 x1 x2 sg :=
 (fix_raw (C := cfg) (f := F_check_scope_of) (s := sig_check_scope_of) (fn := Tryz.f74) (c := code_check_scope_of) (by kernel_rfl) Tryz.func74 (by kernel_rfl)).trans (by kernel_rfl)
theorem call_check_scope_of (x0 : Nat) (x1 x2 : DV) (sg : List SObj) {q : List DV × List SObj} (h : P_check_scope_of (run cfg) x0 x1 x2 sg = some q) : (run cfg).r F_check_scope_of [(.undef, (.map x0)), (x1, .val), (x2, .val)] sg = some q := (fix_check_scope_of x0 x1 x2 sg).trans h
noncomputable def P_term_one (R : Orc) (x0 : DV) : Option DV := eP Tryz.f75 fl_term_one R [] (initSt Tryz.f75 [(x0, .val)] [])
noncomputable def P_term_one_4 (R : Orc) (b1 b3 : DV) : Option DV := eP Tryz.f75 fl_term_one R [true, true, false, false, true, true] (mst 183 [] [(1, (.loc 1 0)), (3, (.loc 3 0))] [(1, some (bxs b1 0 20)), (3, some (bxs b3 0 13))] [])
noncomputable def P_term_one_6 (R : Orc) (b1 b3 : DV) : Option DV := eP Tryz.f75 fl_term_one R [true, true, false, false, true, true, true, true] (mst 183 [] [(1, (.loc 1 0)), (3, (.loc 3 0))] [(1, some (bxs b1 0 20)), (3, some (bxs b3 0 13))] [])
noncomputable def P_term_one_8 (R : Orc) (b1 b3 : DV) : Option DV := eP Tryz.f75 fl_term_one R [true, true, false, false, true, true, true, true, true, true] (mst 183 [] [(1, (.loc 1 0)), (3, (.loc 3 0))] [(1, some (bxs b1 0 20)), (3, some (bxs b3 0 13))] [])
noncomputable def P_term_one_10 (R : Orc) (b1 b3 : DV) : Option DV := eP Tryz.f75 fl_term_one R [true, true, false, false, true, true, true, true, true, true, true, true] (mst 183 [] [(1, (.loc 1 0)), (3, (.loc 3 0))] [(1, some (bxs b1 0 20)), (3, some (bxs b3 0 13))] [])
noncomputable def P_term_one_12 (R : Orc) (b1 b3 : DV) : Option DV := eP Tryz.f75 fl_term_one R [true, true, false, false, true, true, true, true, true, true, true, true, true, true] (mst 183 [] [(1, (.loc 1 0)), (3, (.loc 3 0))] [(1, some (bxs b1 0 20)), (3, some (bxs b3 0 13))] [])
set_option maxRecDepth 100000 in
theorem eq_term_one (R : Orc) (x0 : DV) : P_term_one R x0 =
 (og (isAggN 20 x0) <| ob (R.p F_term_shapeOf [(ag20 x0)]) fun d1 => ob (dExt 0 d1) fun d2 => ob (dExt 1 d1) fun d3 => og (isAggN 13 d2) <| ob (dUn .not d3) fun d4 => ogd d4 (some (.bool false)) (ob (dLen (proj 19 x0)) fun d5 => ob (dBin .neq d5 (proj 12 d2)) fun d6 => ogd d6 (some (.bool false)) (ob (R.p F_term_named [(proj 0 d2), (proj 3 x0)]) fun d7 => ob (dUn .not d7) fun d8 => ogd d8 (some (.bool false)) (ob (R.p F_term_named [(proj 1 d2), (proj 4 x0)]) fun d9 => ob (dUn .not d9) fun d10 => ogd d10 (some (.bool false)) (ob (R.p F_term_typed [(proj 9 d2), (.agg [(proj 11 x0), (proj 12 x0), (proj 13 x0)])]) fun d11 => ob (dUn .not d11) fun d12 => ogd d12 (some (.bool false)) (ob (R.p F_term_typed [(proj 10 d2), (.agg [(proj 14 x0), (proj 15 x0), (proj 16 x0)])]) fun d13 => ob (dUn .not d13) fun d14 => oif d14 (some (.bool false)) (P_term_one_4 R x0 d2)) none) none) none) none) none) := evP_of [4, 6, 8, 10, 12] (by kernel_rfl)
set_option maxRecDepth 100000 in
theorem eq_term_one_4 (R : Orc) (b1 b3 : DV) : P_term_one_4 R b1 b3 =
 (ob (dUn .not (proj 2 b3)) fun d1 => ogd d1 (ob (dBin .neq (proj 5 b1) (.int .i64 0)) fun d2 => ogd d2 (some (.bool false)) (ob (dBin .eql (proj 0 b1) (.int .i64 3)) fun d3 => ogd d3 (ob (dBin .neq (proj 5 b1) (.int .i64 0)) fun d4 => ogd d4 (ob (dBin .neq (proj 5 b1) (.int .i64 1)) fun d5 => oif d5 (some (.bool false)) (P_term_one_6 R b1 b3)) (P_term_one_6 R b1 b3) none) (P_term_one_6 R b1 b3) none) none) (ob (dBin .eql (proj 0 b1) (.int .i64 3)) fun d6 => ogd d6 (ob (dBin .neq (proj 5 b1) (.int .i64 0)) fun d7 => ogd d7 (ob (dBin .neq (proj 5 b1) (.int .i64 1)) fun d8 => oif d8 (some (.bool false)) (P_term_one_6 R b1 b3)) (P_term_one_6 R b1 b3) none) (P_term_one_6 R b1 b3) none) none) := evP_of [4, 6, 8, 10, 12] (by kernel_rfl)
set_option maxRecDepth 100000 in
theorem eq_term_one_6 (R : Orc) (b1 b3 : DV) : P_term_one_6 R b1 b3 =
 (ob (dUn .not (proj 3 b3)) fun d1 => ogd d1 (ob (dBin .neq (proj 6 b1) (.str ⟨#[]⟩)) fun d2 => ogd d2 (some (.bool false)) (ob (dLenS (proj 6 b1)) fun d3 => ob (dBin .gtr d3 (.int .i64 200)) fun d4 => ogd d4 (some (.bool false)) (ob (dUn .not (proj 5 b3)) fun d5 => ogd d5 (ob (dEqA [.int, .int] (.agg [(proj 1 b1), (proj 2 b1)]) (.agg [(.int .i64 0), (.int .i64 0)])) fun b6 => oif (.bool !b6) (some (.bool false)) (P_term_one_8 R b1 b3)) (P_term_one_8 R b1 b3) none) none) none) (ob (dLenS (proj 6 b1)) fun d7 => ob (dBin .gtr d7 (.int .i64 200)) fun d8 => ogd d8 (some (.bool false)) (ob (dUn .not (proj 5 b3)) fun d9 => ogd d9 (ob (dEqA [.int, .int] (.agg [(proj 1 b1), (proj 2 b1)]) (.agg [(.int .i64 0), (.int .i64 0)])) fun b10 => oif (.bool !b10) (some (.bool false)) (P_term_one_8 R b1 b3)) (P_term_one_8 R b1 b3) none) none) none) := evP_of [4, 6, 8, 10, 12] (by kernel_rfl)
set_option maxRecDepth 100000 in
theorem eq_term_one_8 (R : Orc) (b1 b3 : DV) : P_term_one_8 R b1 b3 =
 (ogd (proj 4 b3) (ob (dBin .lss (proj 7 b1) (.int .i64 1)) fun d1 => ogd d1 (some (.bool false)) (ob (dBin .gtr (proj 7 b1) (.int .i64 7)) fun d2 => ogd d2 (some (.bool false)) (ob (dUn .not (proj 4 b3)) fun d3 => ogd d3 (ob (dBin .neq (proj 7 b1) (.int .i64 0)) fun d4 => oif d4 (some (.bool false)) (P_term_one_10 R b1 b3)) (P_term_one_10 R b1 b3) none) none) none) (ob (dUn .not (proj 4 b3)) fun d5 => ogd d5 (ob (dBin .neq (proj 7 b1) (.int .i64 0)) fun d6 => oif d6 (some (.bool false)) (P_term_one_10 R b1 b3)) (P_term_one_10 R b1 b3) none) none) := evP_of [4, 6, 8, 10, 12] (by kernel_rfl)
set_option maxRecDepth 100000 in
theorem eq_term_one_10 (R : Orc) (b1 b3 : DV) : P_term_one_10 R b1 b3 =
 (ob (dUn .not (proj 11 b3)) fun d1 => ogd d1 (ob (dBin .neq (proj 8 b1) (.int .i64 0)) fun d2 => ogd d2 (some (.bool false)) (ogd (proj 9 b1) (some (.bool false)) (ob (dBin .lss (proj 8 b1) (.int .i64 0)) fun d3 => ogd d3 (some (.bool false)) (ob (dBin .gtr (proj 8 b1) (.int .i64 1048576)) fun d4 => oif d4 (some (.bool false)) (P_term_one_12 R b1 b3)) none) none) none) (ob (dBin .lss (proj 8 b1) (.int .i64 0)) fun d5 => ogd d5 (some (.bool false)) (ob (dBin .gtr (proj 8 b1) (.int .i64 1048576)) fun d6 => oif d6 (some (.bool false)) (P_term_one_12 R b1 b3)) none) none) := evP_of [4, 6, 8, 10, 12] (by kernel_rfl)
set_option maxRecDepth 100000 in
theorem eq_term_one_12 (R : Orc) (b1 b3 : DV) : P_term_one_12 R b1 b3 =
 (ob (dUn .not (proj 6 b3)) fun d1 => ogd d1 (ob (dLen (proj 10 b1)) fun d2 => ob (dBin .gtr d2 (.int .i64 0)) fun d3 => ogd d3 (some (.bool false)) (ob (dUn .not (proj 7 b3)) fun d4 => ogd d4 (ob (dLen (proj 17 b1)) fun d5 => ob (dBin .gtr d5 (.int .i64 0)) fun d6 => ogd d6 (some (.bool false)) (ob (dUn .not (proj 8 b3)) fun d7 => ogd d7 (ob (dLen (proj 18 b1)) fun d8 => ob (dBin .gtr d8 (.int .i64 0)) fun d9 => oif d9 (some (.bool false)) (ob (R.p F_term_lists [(ag20 b1)]) fun d10 => some d10)) (ob (R.p F_term_lists [(ag20 b1)]) fun d11 => some d11) none) none) (ob (dUn .not (proj 8 b3)) fun d12 => ogd d12 (ob (dLen (proj 18 b1)) fun d13 => ob (dBin .gtr d13 (.int .i64 0)) fun d14 => oif d14 (some (.bool false)) (ob (R.p F_term_lists [(ag20 b1)]) fun d15 => some d15)) (ob (R.p F_term_lists [(ag20 b1)]) fun d16 => some d16) none) none) none) (ob (dUn .not (proj 7 b3)) fun d17 => ogd d17 (ob (dLen (proj 17 b1)) fun d18 => ob (dBin .gtr d18 (.int .i64 0)) fun d19 => ogd d19 (some (.bool false)) (ob (dUn .not (proj 8 b3)) fun d20 => ogd d20 (ob (dLen (proj 18 b1)) fun d21 => ob (dBin .gtr d21 (.int .i64 0)) fun d22 => oif d22 (some (.bool false)) (ob (R.p F_term_lists [(ag20 b1)]) fun d23 =>
 some d23)) (ob (R.p F_term_lists [(ag20 b1)]) fun d24 => some d24) none) none) (ob (dUn .not (proj 8 b3)) fun d25 => ogd d25 (ob (dLen (proj 18 b1)) fun d26 => ob (dBin .gtr d26 (.int .i64 0)) fun d27 => oif d27 (some (.bool false)) (ob (R.p F_term_lists [(ag20 b1)]) fun d28 => some d28)) (ob (R.p F_term_lists [(ag20 b1)]) fun d29 => some d29) none) none) none) := evP_of [4, 6, 8, 10, 12] (by kernel_rfl)
theorem call_term_one (x0 : DV) {d : DV} (h : P_term_one (run cfg) x0 = some d) : (run cfg).p F_term_one [x0] = some d := callE Tryz.func75 (by kernel_rfl) (by kernel_rfl) (by kernel_rfl) h
noncomputable def P_term_put (R : Orc) (x0 x1 : DV) : Option DV := eP Tryz.f78 fl_term_put R [] (initSt Tryz.f78 [(x0, .val), (x1, .val)] [])
theorem eq_term_put (R : Orc) (x0 x1 : DV) : P_term_put R x0 x1 =
 (og (isAggN 3 x0) <| ob (dBin .eql (proj 0 x0) (.int .i64 0)) fun d1 => oif d1 (some (ag3 x0)) (ob (R.p F_scheme_Subst [(ag3 x0), x1]) fun d2 => ob (dExt 0 d2) fun d3 => ob (dExt 1 d2) fun d4 => og (isAggN 3 d3) <| some (ag3 d3))) := evP_of [] (by kernel_rfl)
theorem call_term_put (x0 x1 : DV) {d : DV} (h : P_term_put (run cfg) x0 x1 = some d) : (run cfg).p F_term_put [x0, x1] = some d := callE Tryz.func78 (by kernel_rfl) (by kernel_rfl) (by kernel_rfl) h
end Go.Su

/-
 Equations of the program's functions: by program.
-/
namespace Go.Su
open Go.Proofs
set_option linter.unusedVariables false
noncomputable def P_term_outside (R : Orc) (x0 x1 x2 : DV) : Option DV := eP Tryz.f79 fl_term_outside R [] (initSt Tryz.f79 [(x0, .val), (x1, .val), (x2, .val)] [])
theorem eq_term_outside (R : Orc) (x0 x1 x2 : DV) : P_term_outside R x0 x1 x2 =
 (og (isAggN 20 x0) <| ob (dBin .gtr x1 (.int .i64 0)) fun d1 => ogd d1 (some x2) (ob (dLen (proj 10 x0)) fun d2 => ob (dBin .eql d2 (.int .i64 0)) fun d3 => oif d3 (some x2) (ob (dList x2) fun p4 => og (true && p4.1 == 4 && decide (p4.2.length ≤ lim)) <| ob (R.r F_slices_DeleteFunc__api_Bind_api_Bind [(.undef, (.arr 1 4 0 p4.2.length)), (.undef, (.fn 117 [(0, 0)]))] [SObj.box [((proj 0 x0), .val), ((proj 1 x0), .val), ((proj 2 x0), .val), ((proj 3 x0), .val), ((proj 4 x0), .val), ((proj 5 x0), .val), ((proj 6 x0), .val), ((proj 7 x0), .val), ((proj 8 x0), .val), ((proj 9 x0), .val), ((proj 10 x0), .val), ((proj 11 x0), .val), ((proj 12 x0), .val), ((proj 13 x0), .val), ((proj 14 x0), .val), ((proj 15 x0), .val), ((proj 16 x0), .val), ((proj 17 x0), .val), ((proj 18 x0), .val), ((proj 19 x0), .val)], .arr 4 p4.2]) fun q5 => some (q5.1.getD 0 .undef))) none) := evP_of [] (by kernel_rfl)
theorem call_term_outside (x0 x1 x2 : DV) {d : DV} (h : P_term_outside (run cfg) x0 x1 x2 = some d) : (run cfg).p F_term_outside [x0, x1, x2] = some d := callE Tryz.func79 (by kernel_rfl) (by kernel_rfl) (by kernel_rfl) h
noncomputable def P_typ_right (R : Orc) (x0 : DV) : Option DV := eP Tryz.f80 fl_typ_right R [] (initSt Tryz.f80 [(x0, .val)] [])
noncomputable def P_typ_right_9h (R : Orc) (t33 t34 t35 : DV) : Option DV := hP Tryz.f80 fl_typ_right R [true, true, true, true, false, true, false] (mst 43 [(33, t33), (34, t34), (35, t35)] [] [] [])
theorem eq_typ_right (R : Orc) (x0 : DV) : P_typ_right R x0 =
 (og (isAggN 3 x0) <| ob (R.p F_typ_arity [(proj 0 x0)]) fun d1 => ob (dBin .lss d1 (.int .i64 0)) fun d2 => ogd d2 (some (.bool false)) (ob (dLen (proj 2 x0)) fun d3 => ob (dBin .neq d3 d1) fun d4 => oif d4 (some (.bool false)) (ob (dBin .eql (proj 0 x0) (.int .i64 6)) fun d5 => oif d5 (ob (dBin .geq (proj 1 x0) (.int .i64 0)) fun d6 => ogd d6 (ob (dBin .leq (proj 1 x0) (.int .i64 1048576)) fun d7 => some d7) (some (.bool false)) none) (ob (dBin .neq (proj 1 x0) (.int .i64 0)) fun d8 => oif d8 (some (.bool false)) (ob (dLen (proj 2 x0)) fun d9 => P_typ_right_9h R (proj 2 x0) d9 (.int .i64 0))))) none) := evP_of [] (by kernel_rfl)
theorem eq_typ_right_9h (R : Orc) (t33 t34 t35 : DV) : P_typ_right_9h R t33 t34 t35 =
 (ob (dBin .lss t35 t34) fun d1 => oif d1 (ob (dIdx 3 t33 t35) fun d2 => ob (R.p F_typ_right [(ag3 d2)]) fun d3 => ob (dUn .not d3) fun d4 => oif d4 (some (.bool false)) (ob (dBin .add t35 (.int .i64 1)) fun d5 => P_typ_right_9h R t33 t34 d5)) (some (.bool true))) := headP_of [] (by kernel_rfl)
theorem call_typ_right (x0 : DV) {d : DV} (h : P_typ_right (run cfg) x0 = some d) : (run cfg).p F_typ_right [x0] = some d := callE Tryz.func80 (by kernel_rfl) (by kernel_rfl) (by kernel_rfl) h
noncomputable def P_word_Key (R : Orc) (x0 : DV) : Option DV := eP Tryz.f81 fl_word_Key R [] (initSt Tryz.f81 [(x0, .val)] [])
theorem eq_word_Key (R : Orc) (x0 : DV) : P_word_Key R x0 =
 (ob (dBin .eql x0 (.str ⟨#[108, 101, 116]⟩)) fun d1 => oif d1 (some (.bool true)) (ob (dBin .eql x0 (.str ⟨#[114, 101, 99]⟩)) fun d2 => oif d2 (some (.bool true)) (ob (dBin .eql x0 (.str ⟨#[105, 110]⟩)) fun d3 => oif d3 (some (.bool true)) (ob (dBin .eql x0 (.str ⟨#[102, 117, 110]⟩)) fun d4 => oif d4 (some (.bool true)) (ob (dBin .eql x0 (.str ⟨#[105, 102]⟩)) fun d5 => oif d5 (some (.bool true)) (ob (dBin .eql x0 (.str ⟨#[116, 104, 101, 110]⟩)) fun d6 => oif d6 (some (.bool true)) (ob (dBin .eql x0 (.str ⟨#[101, 108, 115, 101]⟩)) fun d7 => oif d7 (some (.bool true)) (ob (dBin .eql x0 (.str ⟨#[109, 97, 116, 99, 104]⟩)) fun d8 => oif d8 (some (.bool true)) (ob (dBin .eql x0 (.str ⟨#[119, 105, 116, 104]⟩)) fun d9 => oif d9 (some (.bool true)) (ob (dBin .eql x0 (.str ⟨#[101, 110, 100]⟩)) fun d10 => oif d10 (some (.bool true)) (ob (dBin .eql x0 (.str ⟨#[116, 114, 117, 101]⟩)) fun d11 => oif d11 (some (.bool true)) (ob (dBin .eql x0 (.str ⟨#[102, 97, 108, 115, 101]⟩)) fun d12 => oif d12 (some (.bool true)) (ob (dBin .eql x0 (.str ⟨#[105, 110, 116]⟩)) fun d13 => oif d13 (some (.bool true)) (ob (dBin .eql x0 (.str ⟨#[98, 111, 111, 108]⟩)) fun d14 => oif d14 (some (.bool true)) (ob (dBin .eql x0 (.str ⟨#[115, 116, 114, 105, 110, 103]⟩)) fun d15 =>
 oif d15 (some (.bool true)) (ob (dBin .eql x0 (.str ⟨#[117, 110, 105, 116]⟩)) fun d16 => oif d16 (some (.bool true)) (ob (dBin .eql x0 (.str ⟨#[108, 105, 115, 116]⟩)) fun d17 => oif d17 (some (.bool true)) (some (.bool false))))))))))))))))))) := evP_of [] (by kernel_rfl)
theorem call_word_Key (x0 : DV) {d : DV} (h : P_word_Key (run cfg) x0 = some d) : (run cfg).p F_word_Key [x0] = some d := callE Tryz.func81 (by kernel_rfl) (by kernel_rfl) (by kernel_rfl) h
noncomputable def P_word_inner (R : Orc) (x0 : DV) : Option DV := eP Tryz.f82 fl_word_inner R [] (initSt Tryz.f82 [(x0, .val)] [])
set_option maxRecDepth 100000 in
theorem eq_word_inner (R : Orc) (x0 : DV) : P_word_inner R x0 =
 (ob (dBin .geq x0 (.int .u8 97)) fun d1 => ogd d1 (ob (dBin .leq x0 (.int .u8 122)) fun d2 => ogd d2 (some (.bool true)) (ob (dBin .geq x0 (.int .u8 65)) fun d3 => ogd d3 (ob (dBin .leq x0 (.int .u8 90)) fun d4 => ogd d4 (some (.bool true)) (ob (dBin .geq x0 (.int .u8 48)) fun d5 => ogd d5 (ob (dBin .leq x0 (.int .u8 57)) fun d6 => ogd d6 (some (.bool true)) (ob (dBin .eql x0 (.int .u8 95)) fun d7 => ogd d7 (some (.bool true)) (ob (dBin .eql x0 (.int .u8 39)) fun d8 => some d8) none) none) (ob (dBin .eql x0 (.int .u8 95)) fun d9 => ogd d9 (some (.bool true)) (ob (dBin .eql x0 (.int .u8 39)) fun d10 => some d10) none) none) none) (ob (dBin .geq x0 (.int .u8 48)) fun d11 => ogd d11 (ob (dBin .leq x0 (.int .u8 57)) fun d12 => ogd d12 (some (.bool true)) (ob (dBin .eql x0 (.int .u8 95)) fun d13 => ogd d13 (some (.bool true)) (ob (dBin .eql x0 (.int .u8 39)) fun d14 => some d14) none) none) (ob (dBin .eql x0 (.int .u8 95)) fun d15 => ogd d15 (some (.bool true)) (ob (dBin .eql x0 (.int .u8 39)) fun d16 => some d16) none) none) none) none) (ob (dBin .geq x0 (.int .u8 65)) fun d17 => ogd d17 (ob (dBin .leq x0 (.int .u8 90)) fun d18 => ogd d18 (some (.bool true)) (ob (dBin .geq x0 (.int .u8 48)) fun d19 =>
 ogd d19 (ob (dBin .leq x0 (.int .u8 57)) fun d20 => ogd d20 (some (.bool true)) (ob (dBin .eql x0 (.int .u8 95)) fun d21 => ogd d21 (some (.bool true)) (ob (dBin .eql x0 (.int .u8 39)) fun d22 => some d22) none) none) (ob (dBin .eql x0 (.int .u8 95)) fun d23 => ogd d23 (some (.bool true)) (ob (dBin .eql x0 (.int .u8 39)) fun d24 => some d24) none) none) none) (ob (dBin .geq x0 (.int .u8 48)) fun d25 => ogd d25 (ob (dBin .leq x0 (.int .u8 57)) fun d26 => ogd d26 (some (.bool true)) (ob (dBin .eql x0 (.int .u8 95)) fun d27 => ogd d27 (some (.bool true)) (ob (dBin .eql x0 (.int .u8 39)) fun d28 => some d28) none) none) (ob (dBin .eql x0 (.int .u8 95)) fun d29 => ogd d29 (some (.bool true)) (ob (dBin .eql x0 (.int .u8 39)) fun d30 => some d30) none) none) none) none) := evP_of [] (by kernel_rfl)
theorem call_word_inner (x0 : DV) {d : DV} (h : P_word_inner (run cfg) x0 = some d) : (run cfg).p F_word_inner [x0] = some d := callE Tryz.func82 (by kernel_rfl) (by kernel_rfl) (by kernel_rfl) h
noncomputable def P_r01_lower (R : Orc) (x0 : DV) : Option DV := eP Tryz.f86 fl_r01_lower R [] (initSt Tryz.f86 [(x0, .val)] [])
theorem eq_r01_lower (R : Orc) (x0 : DV) : P_r01_lower R x0 =
 (ob (dBin .geq x0 (.int .u8 97)) fun d1 => ogd d1 (ob (dBin .leq x0 (.int .u8 122)) fun d2 => some d2) (some (.bool false)) none) := evP_of [] (by kernel_rfl)
theorem call_r01_lower (x0 : DV) {d : DV} (h : P_r01_lower (run cfg) x0 = some d) : (run cfg).p F_r01_lower [x0] = some d := callE Tryz.func86 (by kernel_rfl) (by kernel_rfl) (by kernel_rfl) h
noncomputable def P_r01_part (R : Orc) (x0 : DV) : Option DV := eP Tryz.f87 fl_r01_part R [] (initSt Tryz.f87 [(x0, .val)] [])
set_option maxRecDepth 100000 in
theorem eq_r01_part (R : Orc) (x0 : DV) : P_r01_part R x0 =
 (ob (R.p F_r01_lower [x0]) fun d1 => ogd d1 (some (.bool true)) (ob (R.p F_r01_digit [x0]) fun d2 => ogd d2 (some (.bool true)) (ob (dBin .geq x0 (.int .u8 65)) fun d3 => ogd d3 (ob (dBin .leq x0 (.int .u8 90)) fun d4 => ogd d4 (some (.bool true)) (ob (dBin .eql x0 (.int .u8 95)) fun d5 => ogd d5 (some (.bool true)) (ob (dBin .eql x0 (.int .u8 39)) fun d6 => some d6) none) none) (ob (dBin .eql x0 (.int .u8 95)) fun d7 => ogd d7 (some (.bool true)) (ob (dBin .eql x0 (.int .u8 39)) fun d8 => some d8) none) none) none) none) := evP_of [] (by kernel_rfl)
theorem call_r01_part (x0 : DV) {d : DV} (h : P_r01_part (run cfg) x0 = some d) : (run cfg).p F_r01_part [x0] = some d := callE Tryz.func87 (by kernel_rfl) (by kernel_rfl) (by kernel_rfl) h
noncomputable def P_r01_Key (R : Orc) (x0 : DV) : Option DV := eP Tryz.f88 fl_r01_Key R [] (initSt Tryz.f88 [(x0, .val)] [])
noncomputable def P_r01_Key_2h (R : Orc) (t0 t3 : DV) : Option DV := hP Tryz.f88 fl_r01_Key R [true, false, true, false] (mst 40 [(0, t0), (3, t3)] [] [] [])
noncomputable def P_r01_Key_8h (R : Orc) (t0 t4 t5 : DV) : Option DV := hP Tryz.f88 fl_r01_Key R [true, true, true, false, true, false] (mst 40 [(0, t0), (4, t4), (5, t5)] [] [] [])
theorem eq_r01_Key (R : Orc) (x0 : DV) : P_r01_Key R x0 =
 (P_r01_Key_2h R x0 (.int .i64 0)) := evP_of [] (by kernel_rfl)
theorem eq_r01_Key_2h (R : Orc) (t0 t3 : DV) : P_r01_Key_2h R t0 t3 =
 (ob (dLenS t0) fun d1 => ob (dBin .lss t3 d1) fun d2 => oif d2 (ob (dStrIdx t0 t3) fun d3 => ob (R.p F_r01_lower [d3]) fun d4 => ob (dUn .not d4) fun d5 => oif d5 (some (.bool false)) (ob (dBin .add t3 (.int .i64 1)) fun d6 => P_r01_Key_2h R t0 d6)) (ob (dBin .add (.str ⟨#[32]⟩) t0) fun d7 => ob (dBin .add d7 (.str ⟨#[32]⟩)) fun d8 => P_r01_Key_8h R t0 d8 (.int .i64 0))) := headP_of [] (by kernel_rfl)
theorem eq_r01_Key_8h (R : Orc) (t0 t4 t5 : DV) : P_r01_Key_8h R t0 t4 t5 =
 (ob (dLenS t4) fun d1 => ob (dBin .add t5 d1) fun d2 => ob (dBin .leq d2 (.int .i64 81)) fun d3 => oif d3 (ob (dLenS t0) fun d4 => ob (dBin .gtr d4 (.int .i64 0)) fun d5 => ogd d5 (ob (dLenS t4) fun d6 => ob (dBin .add t5 d6) fun d7 => ob (dSliceS (.str ⟨#[32, 108, 101, 116, 32, 114, 101, 99, 32, 105, 110, 32, 102, 117, 110, 32, 105, 102, 32, 116, 104, 101, 110, 32, 101, 108, 115, 101, 32, 109, 97, 116, 99, 104, 32, 119, 105, 116, 104, 32, 101, 110, 100, 32, 116, 114, 117, 101, 32, 102, 97, 108, 115, 101, 32, 105, 110, 116, 32, 98, 111, 111, 108, 32, 115, 116, 114, 105, 110, 103, 32, 117, 110, 105, 116, 32, 108, 105, 115, 116, 32]⟩) (some t5) (some d7)) fun d8 => ob (dBin .eql d8 t4) fun d9 => oif d9 (some (.bool true)) (ob (dBin .add t5 (.int .i64 1)) fun d10 => P_r01_Key_8h R t0 t4 d10)) (ob (dBin .add t5 (.int .i64 1)) fun d11 => P_r01_Key_8h R t0 t4 d11) none) (some (.bool false))) := headP_of [] (by kernel_rfl)
theorem call_r01_Key (x0 : DV) {d : DV} (h : P_r01_Key (run cfg) x0 = some d) : (run cfg).p F_r01_Key [x0] = some d := callE Tryz.func88 (by kernel_rfl) (by kernel_rfl) (by kernel_rfl) h
noncomputable def P_r05_Has (R : Orc) (x0 x1 : DV) : Option DV := eP Tryz.f90 fl_r05_Has R [] (initSt Tryz.f90 [(x0, .val), (x1, .val)] [])
noncomputable def P_r05_Has_2h (R : Orc) (t0 t1 t5 : DV) : Option DV := hP Tryz.f90 fl_r05_Has R [true, false, true, false] (mst 18 [(0, t0), (1, t1), (5, t5)] [] [] [])
theorem eq_r05_Has (R : Orc) (x0 x1 : DV) : P_r05_Has R x0 x1 =
 (P_r05_Has_2h R x0 x1 (.int .i64 0)) := evP_of [] (by kernel_rfl)
theorem eq_r05_Has_2h (R : Orc) (t0 t1 t5 : DV) : P_r05_Has_2h R t0 t1 t5 =
 (ob (dLen t0) fun d1 => ob (dBin .lss t5 d1) fun d2 => oif d2 (ob (dIdx 1 t0 t5) fun d3 => og (isLeaf d3) <| ob (dBin .eql d3 t1) fun d4 => oif d4 (some (.bool true)) (ob (dBin .add t5 (.int .i64 1)) fun d5 => P_r05_Has_2h R t0 t1 d5)) (some (.bool false))) := headP_of [] (by kernel_rfl)
theorem call_r05_Has (x0 x1 : DV) {d : DV} (h : P_r05_Has (run cfg) x0 x1 = some d) : (run cfg).p F_r05_Has [x0, x1] = some d := callE Tryz.func90 (by kernel_rfl) (by kernel_rfl) (by kernel_rfl) h
noncomputable def P_r03_SameAll (R : Orc) (x0 x1 : DV) : Option DV := eP Tryz.f93 fl_r03_SameAll R [] (initSt Tryz.f93 [(x0, .val), (x1, .val)] [])
noncomputable def P_r03_SameAll_4h (R : Orc) (t0 t1 t5 : DV) : Option DV := hP Tryz.f93 fl_r03_SameAll R [true, true, false, true, false] (mst 27 [(0, t0), (1, t1), (5, t5)] [] [] [])
theorem eq_r03_SameAll (R : Orc) (x0 x1 : DV) : P_r03_SameAll R x0 x1 =
 (ob (dLen x0) fun d1 => ob (dLen x1) fun d2 => ob (dBin .neq d1 d2) fun d3 => oif d3 (some (.bool false)) (P_r03_SameAll_4h R x0 x1 (.int .i64 0))) := evP_of [] (by kernel_rfl)
theorem eq_r03_SameAll_4h (R : Orc) (t0 t1 t5 : DV) : P_r03_SameAll_4h R t0 t1 t5 =
 (ob (dLen t0) fun d1 => ob (dBin .lss t5 d1) fun d2 => oif d2 (ob (dIdx 3 t0 t5) fun d3 => ob (dIdx 3 t1 t5) fun d4 => ob (R.p F_r03_Same [(ag3 d3), (ag3 d4)]) fun d5 => ob (dUn .not d5) fun d6 => oif d6 (some (.bool false)) (ob (dBin .add t5 (.int .i64 1)) fun d7 => P_r03_SameAll_4h R t0 t1 d7)) (some (.bool true))) := headP_of [] (by kernel_rfl)
theorem call_r03_SameAll (x0 x1 : DV) {d : DV} (h : P_r03_SameAll (run cfg) x0 x1 = some d) : (run cfg).p F_r03_SameAll [x0, x1] = some d := callE Tryz.func93 (by kernel_rfl) (by kernel_rfl) (by kernel_rfl) h
noncomputable def P_r03_Same (R : Orc) (x0 x1 : DV) : Option DV := eP Tryz.f94 fl_r03_Same R [] (initSt Tryz.f94 [(x0, .val), (x1, .val)] [])
noncomputable def P_r03_Same_4h (R : Orc) (t5 b2 b3 : DV) : Option DV := hP Tryz.f94 fl_r03_Same R [true, true, false, true, false] (mst 46 [(5, t5)] [(2, (.loc 2 0)), (3, (.loc 3 0))] [(2, some (bxs b2 0 3)), (3, some (bxs b3 0 3))] [])
set_option maxRecDepth 100000 in
theorem eq_r03_Same (R : Orc) (x0 x1 : DV) : P_r03_Same R x0 x1 =
 (og (isAggN 3 x0) <| og (isAggN 3 x1) <| ob (dBin .neq (proj 0 x0) (proj 0 x1)) fun d1 => ogd d1 (some (.bool false)) (ob (dBin .neq (proj 1 x0) (proj 1 x1)) fun d2 => ogd d2 (some (.bool false)) (ob (dLen (proj 2 x0)) fun d3 => ob (dLen (proj 2 x1)) fun d4 => ob (dBin .neq d3 d4) fun d5 => oif d5 (some (.bool false)) (P_r03_Same_4h R (.int .i64 0) x0 x1)) none) none) := evP_of [] (by kernel_rfl)
theorem eq_r03_Same_4h (R : Orc) (t5 b2 b3 : DV) : P_r03_Same_4h R t5 b2 b3 =
 (ob (dLen (proj 2 b2)) fun d1 => ob (dBin .lss t5 d1) fun d2 => oif d2 (ob (dIdx 3 (proj 2 b2) t5) fun d3 => ob (dIdx 3 (proj 2 b3) t5) fun d4 => ob (R.p F_r03_Same [(ag3 d3), (ag3 d4)]) fun d5 => ob (dUn .not d5) fun d6 => oif d6 (some (.bool false)) (ob (dBin .add t5 (.int .i64 1)) fun d7 => P_r03_Same_4h R d7 b2 b3)) (some (.bool true))) := headP_of [] (by kernel_rfl)
theorem call_r03_Same (x0 x1 : DV) {d : DV} (h : P_r03_Same (run cfg) x0 x1 = some d) : (run cfg).p F_r03_Same [x0, x1] = some d := callE Tryz.func94 (by kernel_rfl) (by kernel_rfl) (by kernel_rfl) h
noncomputable def P_r05_SameAt (R : Orc) (x0 x1 : DV) : Option DV := eP Tryz.f95 fl_r05_SameAt R [] (initSt Tryz.f95 [(x0, .val), (x1, .val)] [])
noncomputable def P_r05_SameAt_4h (R : Orc) (t5 b2 b3 : DV) : Option DV := hP Tryz.f95 fl_r05_SameAt R [true, true, false, true, false] (mst 56 [(5, t5)] [(2, (.loc 2 0)), (3, (.loc 3 0))] [(2, some (bxs b2 0 16)), (3, some (bxs b3 0 16))] [])
noncomputable def P_r05_SameAt_9h (R : Orc) (t6 b2 b3 : DV) : Option DV := hP Tryz.f95 fl_r05_SameAt R [true, true, true, false, true, false] (mst 56 [(6, t6)] [(2, (.loc 2 0)), (3, (.loc 3 0))] [(2, some (bxs b2 0 16)), (3, some (bxs b3 0 16))] [])
theorem eq_r05_SameAt (R : Orc) (x0 x1 : DV) : P_r05_SameAt R x0 x1 =
 (og (isAggN 16 x0) <| og (isAggN 16 x1) <| ob (R.p F_r05_Same [(ag16 x0), (ag16 x1)]) fun d1 => ob (dUn .not d1) fun d2 => ogd d2 (some (.bool false)) (ob (dEqA [.int, .int] (.agg [(proj 1 x0), (proj 2 x0)]) (.agg [(proj 1 x1), (proj 2 x1)])) fun b3 => oif (.bool !b3) (some (.bool false)) (P_r05_SameAt_4h R (.int .i64 0) x0 x1)) none) := evP_of [] (by kernel_rfl)
theorem eq_r05_SameAt_4h (R : Orc) (t5 b2 b3 : DV) : P_r05_SameAt_4h R t5 b2 b3 =
 (ob (dLen (proj 14 b2)) fun d1 => ob (dBin .lss t5 d1) fun d2 => oif d2 (ob (dIdx 7 (proj 14 b2) t5) fun d3 => ob (dIdx 7 (proj 14 b3) t5) fun d4 => ob (R.p F_r05_patAt [(ag7 d3), (ag7 d4)]) fun d5 => ob (dUn .not d5) fun d6 => oif d6 (some (.bool false)) (ob (dBin .add t5 (.int .i64 1)) fun d7 => P_r05_SameAt_4h R d7 b2 b3)) (P_r05_SameAt_9h R (.int .i64 0) b2 b3)) := headP_of [] (by kernel_rfl)
theorem eq_r05_SameAt_9h (R : Orc) (t6 b2 b3 : DV) : P_r05_SameAt_9h R t6 b2 b3 =
 (ob (dLen (proj 15 b2)) fun d1 => ob (dBin .lss t6 d1) fun d2 => oif d2 (ob (dIdx 16 (proj 15 b2) t6) fun d3 => ob (dIdx 16 (proj 15 b3) t6) fun d4 => ob (R.p F_r05_SameAt [(ag16 d3), (ag16 d4)]) fun d5 => ob (dUn .not d5) fun d6 => oif d6 (some (.bool false)) (ob (dBin .add t6 (.int .i64 1)) fun d7 => P_r05_SameAt_9h R d7 b2 b3)) (some (.bool true))) := headP_of [] (by kernel_rfl)
theorem call_r05_SameAt (x0 x1 : DV) {d : DV} (h : P_r05_SameAt (run cfg) x0 x1 = some d) : (run cfg).p F_r05_SameAt [x0, x1] = some d := callE Tryz.func95 (by kernel_rfl) (by kernel_rfl) (by kernel_rfl) h
end Go.Su

/-
 Equations of the program's functions: by program.
-/
namespace Go.Su
open Go.Proofs
set_option linter.unusedVariables false
noncomputable def P_typ_Same (R : Orc) (x0 x1 : DV) : Option DV := eP Tryz.f97 fl_typ_Same R [] (initSt Tryz.f97 [(x0, .val), (x1, .val)] [])
noncomputable def P_typ_Same_4h (R : Orc) (t29 t30 t31 b3 : DV) : Option DV := hP Tryz.f97 fl_typ_Same R [true, true, false, true, false] (mst 45 [(29, t29), (30, t30), (31, t31)] [(3, (.loc 3 0))] [(3, some (bxs b3 0 3))] [])
set_option maxRecDepth 100000 in
theorem eq_typ_Same (R : Orc) (x0 x1 : DV) : P_typ_Same R x0 x1 =
 (og (isAggN 3 x0) <| og (isAggN 3 x1) <| ob (dBin .neq (proj 0 x0) (proj 0 x1)) fun d1 => ogd d1 (some (.bool false)) (ob (dBin .neq (proj 1 x0) (proj 1 x1)) fun d2 => ogd d2 (some (.bool false)) (ob (dLen (proj 2 x0)) fun d3 => ob (dLen (proj 2 x1)) fun d4 => ob (dBin .neq d3 d4) fun d5 => oif d5 (some (.bool false)) (ob (dLen (proj 2 x0)) fun d6 => P_typ_Same_4h R (proj 2 x0) d6 (.int .i64 0) x1)) none) none) := evP_of [] (by kernel_rfl)
theorem eq_typ_Same_4h (R : Orc) (t29 t30 t31 b3 : DV) : P_typ_Same_4h R t29 t30 t31 b3 =
 (ob (dBin .lss t31 t30) fun d1 => oif d1 (ob (dIdx 3 t29 t31) fun d2 => ob (dIdx 3 (proj 2 b3) t31) fun d3 => ob (R.p F_typ_Same [(ag3 d2), (ag3 d3)]) fun d4 => ob (dUn .not d4) fun d5 => oif d5 (some (.bool false)) (ob (dBin .add t31 (.int .i64 1)) fun d6 => P_typ_Same_4h R t29 t30 d6 b3)) (some (.bool true))) := headP_of [] (by kernel_rfl)
theorem call_typ_Same (x0 x1 : DV) {d : DV} (h : P_typ_Same (run cfg) x0 x1 = some d) : (run cfg).p F_typ_Same [x0, x1] = some d := callE Tryz.func97 (by kernel_rfl) (by kernel_rfl) (by kernel_rfl) h
noncomputable def P_r05_pat (R : Orc) (x0 : DV) : Option DV := eP Tryz.f104 fl_r05_pat R [] (initSt Tryz.f104 [(x0, .val)] [])
noncomputable def P_r05_pat_25 (R : Orc) (t3 b1 b4_0 b4_3 b4_4 b4_5 : DV) : Option DV := eP Tryz.f104 fl_r05_pat R [true, true, true, true] (mst 92 [(3, t3)] [(1, (.loc 1 0)), (4, (.loc 4 0))] [(1, some (bxs b1 0 7)), (4, some [(b4_0, .val), ((.int .i64 0), .val), ((.int .i64 0), .val), (b4_3, .val), (b4_4, .val), (b4_5, .val), ((.list 7 []), .val)])] [])
noncomputable def P_r05_pat_28h (R : Orc) (t3 t5 b1 : DV) : Option DV := hP Tryz.f104 fl_r05_pat R [true, true, true, true, true, false, true, false] (mst 92 [(3, t3), (5, t5)] [(1, (.loc 1 0))] [(1, some (bxs b1 0 7))] [])
set_option maxRecDepth 100000 in
theorem eq_r05_pat (R : Orc) (x0 : DV) : P_r05_pat R x0 =
 (og (isAggN 7 x0) <| og (isCell (proj 0 x0)) <| ob (dBin .eql (proj 0 x0) (.int .i64 1)) fun d1 => oif d1 (P_r05_pat_25 R (.int .i64 0) x0 (proj 0 x0) (.str ⟨#[]⟩) (.int .i64 0) (.str ⟨#[]⟩)) (ob (dBin .eql (proj 0 x0) (.int .i64 6)) fun d2 => oif d2 (P_r05_pat_25 R (.int .i64 0) x0 (proj 0 x0) (.str ⟨#[]⟩) (.int .i64 0) (.str ⟨#[]⟩)) (ob (dBin .eql (proj 0 x0) (.int .i64 8)) fun d3 => oif d3 (P_r05_pat_25 R (.int .i64 0) x0 (proj 0 x0) (.str ⟨#[]⟩) (.int .i64 0) (.str ⟨#[]⟩)) (ob (dBin .eql (proj 0 x0) (.int .i64 2)) fun d4 => oif d4 (og (isCell (proj 3 x0)) <| ob (R.p F_r01_Name [(proj 3 x0)]) fun d5 => ob (dUn .not d5) fun d6 => oif d6 (some (.bool false)) (P_r05_pat_25 R (.int .i64 0) x0 (proj 0 x0) (proj 3 x0) (.int .i64 0) (.str ⟨#[]⟩))) (ob (dBin .eql (proj 0 x0) (.int .i64 3)) fun d7 => oif d7 (og (isCell (proj 4 x0)) <| P_r05_pat_25 R (.int .i64 0) x0 (proj 0 x0) (.str ⟨#[]⟩) (proj 4 x0) (.str ⟨#[]⟩)) (ob (dBin .eql (proj 0 x0) (.int .i64 4)) fun d8 => oif d8 (og (isCell (proj 4 x0)) <| ob (dBin .lss (proj 4 x0) (.int .i64 0)) fun d9 => ogd d9 (some (.bool false)) (ob (dBin .gtr (proj 4 x0) (.int .i64 1)) fun d10 => oif d10 (some (.bool false)) (P_r05_pat_25 R (.int .i64 0) x0 (proj 0 x0) (.str ⟨#[]⟩) (proj 4 x0) (.str ⟨#[]⟩))) none) (ob (dBin .eql (proj 0 x0) (.int .i64 5)) fun d11 =>
 oif d11 (og (isCell (proj 5 x0)) <| ob (dLenS (proj 5 x0)) fun d12 => ob (dBin .gtr d12 (.int .i64 200)) fun d13 => oif d13 (some (.bool false)) (P_r05_pat_25 R (.int .i64 0) x0 (proj 0 x0) (.str ⟨#[]⟩) (.int .i64 0) (proj 5 x0))) (ob (dBin .eql (proj 0 x0) (.int .i64 7)) fun d14 => oif d14 (P_r05_pat_25 R (.int .i64 2) x0 (proj 0 x0) (.str ⟨#[]⟩) (.int .i64 0) (.str ⟨#[]⟩)) (ob (dBin .eql (proj 0 x0) (.int .i64 9)) fun d15 => oif d15 (P_r05_pat_25 R (.int .i64 2) x0 (proj 0 x0) (.str ⟨#[]⟩) (.int .i64 0) (.str ⟨#[]⟩)) (some (.bool false))))))))))) := evP_of [25] (by kernel_rfl)
set_option maxRecDepth 100000 in
theorem eq_r05_pat_25 (R : Orc) (t3 b1 b4_0 b4_3 b4_4 b4_5 : DV) : P_r05_pat_25 R t3 b1 b4_0 b4_3 b4_4 b4_5 =
 (ob (dLen (proj 6 b1)) fun d1 => ob (dBin .neq d1 t3) fun d2 => ogd d2 (some (.bool false)) (ob (dBin .neq (proj 3 b1) b4_3) fun d3 => ogd d3 (some (.bool false)) (ob (dBin .neq (proj 4 b1) b4_4) fun d4 => ogd d4 (some (.bool false)) (ob (dBin .neq (proj 5 b1) b4_5) fun d5 => oif d5 (some (.bool false)) (P_r05_pat_28h R t3 (.int .i64 0) b1)) none) none) none) := evP_of [25] (by kernel_rfl)
theorem eq_r05_pat_28h (R : Orc) (t3 t5 b1 : DV) : P_r05_pat_28h R t3 t5 b1 =
 (ob (dBin .lss t5 t3) fun d1 => oif d1 (ob (dIdx 7 (proj 6 b1) t5) fun d2 => ob (R.p F_r05_pat [(ag7 d2)]) fun d3 => ob (dUn .not d3) fun d4 => oif d4 (some (.bool false)) (ob (dBin .add t5 (.int .i64 1)) fun d5 => P_r05_pat_28h R t3 d5 b1)) (some (.bool true))) := headP_of [25] (by kernel_rfl)
theorem call_r05_pat (x0 : DV) {d : DV} (h : P_r05_pat (run cfg) x0 = some d) : (run cfg).p F_r05_pat [x0] = some d := callE Tryz.func104 (by kernel_rfl) (by kernel_rfl) (by kernel_rfl) h
noncomputable def code_r05_names : Code := Tryz.f105.body.getD .skip
noncomputable def P_r05_names (R : Orc) (x0 x1 : DV) (sg : List SObj) : Option (List DV × List SObj) := evP cfg R fl_r05_names (retR cfg.P Tryz.f105 sig_r05_names) [] code_r05_names (initSt Tryz.f105 [(x0, .val), (x1, .own)] sg)
noncomputable def P_r05_names_4h (R : Orc) (t1 t5 b2 : DV) (sg : List SObj) : Option (List DV × List SObj) := headP cfg R fl_r05_names (retR cfg.P Tryz.f105 sig_r05_names) [true, true, false, true, false] code_r05_names (mst 29 [(1, t1), (5, t5)] [(1, .own), (2, (.loc 2 0))] [(2, some (bxs b2 0 7))] sg)
theorem eq_r05_names (R : Orc) (x0 x1 : DV) (sg : List SObj) : P_r05_names R x0 x1 sg =
 (og (isAggN 7 x0) <| ob (dBin .eql (proj 0 x0) (.int .i64 2)) fun d1 => oif d1 (og (isCell (proj 3 x0)) <| ob (dApp 1 x1 (.list 1 [(proj 3 x0)])) fun d2 => P_r05_names_4h R d2 (.int .i64 0) x0 sg) (P_r05_names_4h R x1 (.int .i64 0) x0 sg)) := evP_of [] (by kernel_rfl)
theorem eq_r05_names_4h (R : Orc) (t1 t5 b2 : DV) (sg : List SObj) : P_r05_names_4h R t1 t5 b2 sg =
 (ob (dLen (proj 6 b2)) fun d1 => ob (dBin .lss t5 d1) fun d2 => oif d2 (ob (dIdx 7 (proj 6 b2) t5) fun d3 => ob (R.r F_r05_names [((ag7 d3), .val), (t1, .own)] sg) fun q4 => ob (dBin .add t5 (.int .i64 1)) fun d5 => P_r05_names_4h R (q4.1.getD 0 .undef) d5 b2 q4.2) (some ([t1], sg))) := headP_of [] (by kernel_rfl)
theorem fix_r05_names (x0 x1 : DV) (sg : List SObj) : (run cfg).r F_r05_names [(x0, .val), (x1, .own)] sg = P_r05_names (run cfg) x0 x1 sg :=
 (fix_raw (C := cfg) (f := F_r05_names) (s := sig_r05_names) (fn := Tryz.f105) (c := code_r05_names) (by kernel_rfl) Tryz.func105 (by kernel_rfl)).trans (by kernel_rfl)
theorem call_r05_names (x0 x1 : DV) (sg : List SObj) {q : List DV × List SObj} (h : P_r05_names (run cfg) x0 x1 sg = some q) : (run cfg).r F_r05_names [(x0, .val), (x1, .own)] sg = some q := (fix_r05_names x0 x1 sg).trans h
noncomputable def P_typ_Vars (R : Orc) (x0 : DV) : Option DV := eP Tryz.f106 fl_typ_Vars R [] (initSt Tryz.f106 [(x0, .val)] [])
theorem eq_typ_Vars (R : Orc) (x0 : DV) : P_typ_Vars R x0 =
 (og (isAggN 3 x0) <| ob (R.r F_typ_vars [((ag3 x0), .val), (.undef, (.map 0)), ((.list 1 []), .own)] [.map false []]) fun q1 => some (q1.1.getD 0 .undef)) := evP_of [] (by kernel_rfl)
theorem call_typ_Vars (x0 : DV) {d : DV} (h : P_typ_Vars (run cfg) x0 = some d) : (run cfg).p F_typ_Vars [x0] = some d := callE Tryz.func106 (by kernel_rfl) (by kernel_rfl) (by kernel_rfl) h
noncomputable def code_check_scope_takes : Code := Tryz.f107.body.getD .skip
noncomputable def P_check_scope_takes (R : Orc) (x0 : Nat) (x1 : DV) (sg : List SObj) : Option (List DV × List SObj) := evP cfg R fl_check_scope_takes (retR cfg.P Tryz.f107 sig_check_scope_takes) [] code_check_scope_takes (initSt Tryz.f107 [(.undef, (.map x0)), (x1, .val)] sg)
noncomputable def P_check_scope_takes_2h (R : Orc) (t0i : Nat) (t1 t7 t8 t9 : DV) (sg : List SObj) : Option (List DV × List SObj) := headP cfg R fl_check_scope_takes (retR cfg.P Tryz.f107 sig_check_scope_takes) [true, false, true, false] code_check_scope_takes (mst 26 [(1, t1), (7, t7), (8, t8), (9, t9)] [(0, (.map t0i))] [] sg)
theorem eq_check_scope_takes (R : Orc) (x0 : Nat) (x1 : DV) (sg : List SObj) : P_check_scope_takes R x0 x1 sg =
 (ob (dLen x1) fun d1 => P_check_scope_takes_2h R x0 x1 x1 d1 (.int .i64 0) sg) := evP_of [] (by kernel_rfl)
theorem eq_check_scope_takes_2h (R : Orc) (t0i : Nat) (t1 t7 t8 t9 : DV) (sg : List SObj) : P_check_scope_takes_2h R t0i t1 t7 t8 t9 sg =
 (ob (dBin .lss t9 t8) fun d1 => oif d1 (ob (dIdx 1 t7 t9) fun d2 => og (isLeaf d2) <| og (isKey false d2 && true) <| ob (sgMap sg t0i) fun m3 => og (m3.1 == false) <| ob (dBin .gtr ((mGet m3.2 d2).getD (.int .i64 0)) (.int .i64 0)) fun d4 => ogd d4 (some ([(.bool false)], sg)) (ob (dSlice 1 t1 none (some t9)) fun d5 => ob (R.p F_slices_Contains__int_int [d5, d2]) fun d6 => oif d6 (some ([(.bool false)], sg)) (ob (dBin .add t9 (.int .i64 1)) fun d7 => P_check_scope_takes_2h R t0i t1 t7 t8 d7 sg)) none) (some ([(.bool true)], sg))) := headP_of [] (by kernel_rfl)
theorem fix_check_scope_takes (x0 : Nat) (x1 : DV) (sg : List SObj) : (run cfg).r F_check_scope_takes [(.undef, (.map x0)), (x1, .val)] sg = P_check_scope_takes (run cfg) x0 x1 sg :=
 (fix_raw (C := cfg) (f := F_check_scope_takes) (s := sig_check_scope_takes) (fn := Tryz.f107) (c := code_check_scope_takes) (by kernel_rfl) Tryz.func107 (by kernel_rfl)).trans (by kernel_rfl)
theorem call_check_scope_takes (x0 : Nat) (x1 : DV) (sg : List SObj) {q : List DV × List SObj} (h : P_check_scope_takes (run cfg) x0 x1 sg = some q) : (run cfg).r F_check_scope_takes [(.undef, (.map x0)), (x1, .val)] sg = some q := (fix_check_scope_takes x0 x1 sg).trans h
noncomputable def code_check_scope_enter : Code := Tryz.f108.body.getD .skip
noncomputable def P_check_scope_enter (R : Orc) (x0 : Nat) (x1 x2 : DV) (sg : List SObj) : Option (List DV × List SObj) := evP cfg R fl_check_scope_enter (retR cfg.P Tryz.f108 sig_check_scope_enter) [] code_check_scope_enter (initSt Tryz.f108 [(.undef, (.map x0)), (x1, .val), (x2, .val)] sg)
noncomputable def P_check_scope_enter_1h (R : Orc) (t0i : Nat) (t2 t8 t9 t10 : DV) (sg : List SObj) : Option (List DV × List SObj) := headP cfg R fl_check_scope_enter (retR cfg.P Tryz.f108 sig_check_scope_enter) [true, false] code_check_scope_enter (mst 20 [(2, t2), (8, t8), (9, t9), (10, t10)] [(0, (.map t0i))] [] sg)
theorem eq_check_scope_enter (R : Orc) (x0 : Nat) (x1 x2 : DV) (sg : List SObj) : P_check_scope_enter R x0 x1 x2 sg =
 (ob (dLen x1) fun d1 => P_check_scope_enter_1h R x0 x2 x1 d1 (.int .i64 0) sg) := evP_of [] (by kernel_rfl)
theorem eq_check_scope_enter_1h (R : Orc) (t0i : Nat) (t2 t8 t9 t10 : DV) (sg : List SObj) : P_check_scope_enter_1h R t0i t2 t8 t9 t10 sg =
 (ob (dBin .lss t10 t9) fun d1 => oif d1 (ob (dIdx 1 t8 t10) fun d2 => og (isLeaf d2) <| og (isKey false d2 && true) <| ob (sgMap sg t0i) fun m3 => og (m3.1 == false) <| ob (dBin .add ((mGet m3.2 d2).getD (.int .i64 0)) t2) fun d4 => og (isKey false d2 && true && true) <| ob (sgMap sg t0i) fun m5 => og (m5.1 == false) <| ob (dBin .add t10 (.int .i64 1)) fun d6 => P_check_scope_enter_1h R t0i t2 t8 t9 d6 (sg.set t0i (.map false (mSet m5.2 d2 d4)))) (some ([], sg))) := headP_of [] (by kernel_rfl)
theorem fix_check_scope_enter (x0 : Nat) (x1 x2 : DV) (sg : List SObj) : (run cfg).r F_check_scope_enter [(.undef, (.map x0)), (x1, .val), (x2, .val)] sg = P_check_scope_enter (run cfg) x0 x1 x2 sg :=
 (fix_raw (C := cfg) (f := F_check_scope_enter) (s := sig_check_scope_enter) (fn := Tryz.f108) (c := code_check_scope_enter) (by kernel_rfl) Tryz.func108 (by kernel_rfl)).trans (by kernel_rfl)
theorem call_check_scope_enter (x0 : Nat) (x1 x2 : DV) (sg : List SObj) {q : List DV × List SObj} (h : P_check_scope_enter (run cfg) x0 x1 x2 sg = some q) : (run cfg).r F_check_scope_enter [(.undef, (.map x0)), (x1, .val), (x2, .val)] sg = some q := (fix_check_scope_enter x0 x1 x2 sg).trans h
noncomputable def P_pats_Bind (R : Orc) (x0 x1 : DV) : Option DV := eP Tryz.f109 fl_pats_Bind R [] (initSt Tryz.f109 [(x0, .val), (x1, .val)] [])
theorem eq_pats_Bind (R : Orc) (x0 x1 : DV) : P_pats_Bind R x0 x1 =
 (og (isAggN 7 x0) <| og (isAggN 3 x1) <| ob (R.p F_tree_CheckPat [(ag7 x0)]) fun d1 => ob (dBin .neq d1 (.int .i64 0)) fun d2 => ogd d2 (some (.tup [(.list 4 []), (.int .i64 1)])) (ob (R.p F_typ_Check [(ag3 x1)]) fun d3 => ob (dBin .neq d3 (.int .i64 0)) fun d4 => oif d4 (some (.tup [(.list 4 []), (.int .i64 1)])) (ob (R.r F_pats_bind [((ag7 x0), .val), ((ag3 x1), .val), ((.list 4 []), .own)] []) fun q5 => ob (dExt 0 (.tup q5.1)) fun d6 => ob (dExt 1 (.tup q5.1)) fun d7 => ob (dUn .not d7) fun d8 => oif d8 (some (.tup [(.list 4 []), (.int .i64 4)])) (some (.tup [d6, (.int .i64 0)])))) none) := evP_of [] (by kernel_rfl)
theorem call_pats_Bind (x0 x1 : DV) {d : DV} (h : P_pats_Bind (run cfg) x0 x1 = some d) : (run cfg).p F_pats_Bind [x0, x1] = some d := callE Tryz.func109 (by kernel_rfl) (by kernel_rfl) (by kernel_rfl) h
noncomputable def P_agree_Agree (R : Orc) (x0 x1 : DV) : Option DV := eP Tryz.f110 fl_agree_Agree R [] (initSt Tryz.f110 [(x0, .val), (x1, .val)] [])
theorem eq_agree_Agree (R : Orc) (x0 x1 : DV) : P_agree_Agree R x0 x1 =
 (og (isAggN 3 x0) <| og (isAggN 3 x1) <| ob (R.p F_typ_Check [(ag3 x0)]) fun d1 => ob (dBin .eql d1 (.int .i64 0)) fun d2 => ogd d2 (ob (R.p F_typ_Check [(ag3 x1)]) fun d3 => ob (dBin .eql d3 (.int .i64 0)) fun d4 => ogd d4 (ob (R.p F_agree_agrees [(ag3 x0), (ag3 x1)]) fun d5 => some d5) (some (.bool false)) none) (some (.bool false)) none) := evP_of [] (by kernel_rfl)
theorem call_agree_Agree (x0 x1 : DV) {d : DV} (h : P_agree_Agree (run cfg) x0 x1 = some d) : (run cfg).p F_agree_Agree [x0, x1] = some d := callE Tryz.func110 (by kernel_rfl) (by kernel_rfl) (by kernel_rfl) h
noncomputable def P_term_shapeOf (R : Orc) (x0 : DV) : Option DV := eP Tryz.f111 fl_term_shapeOf R [] (initSt Tryz.f111 [(x0, .val)] [])
set_option maxRecDepth 100000 in
theorem eq_term_shapeOf (R : Orc) (x0 : DV) : P_term_shapeOf R x0 =
 (og (isAggN 20 x0) <| ob (dBin .eql (proj 0 x0) (.int .i64 1)) fun d1 => oif d1 (some (.tup [(.agg [(.bool true), (.bool false), (.bool false), (.bool false), (.bool false), (.bool false), (.bool false), (.bool true), (.bool false), (.bool false), (.bool false), (.bool false), (.int .i64 0)]), (.bool true)])) (ob (dBin .eql (proj 0 x0) (.int .i64 2)) fun d2 => oif d2 (some (.tup [zA2, (.bool true)])) (ob (dBin .eql (proj 0 x0) (.int .i64 3)) fun d3 => oif d3 (some (.tup [zA2, (.bool true)])) (ob (dBin .eql (proj 0 x0) (.int .i64 4)) fun d4 => oif d4 (some (.tup [(.agg [(.bool false), (.bool false), (.bool false), (.bool true), (.bool false), (.bool false), (.bool false), (.bool false), (.bool false), (.bool false), (.bool false), (.bool false), (.int .i64 0)]), (.bool true)])) (ob (dBin .eql (proj 0 x0) (.int .i64 5)) fun d5 => oif d5 (some (.tup [zA0, (.bool true)])) (ob (dBin .eql (proj 0 x0) (.int .i64 7)) fun d6 => oif d6 (some (.tup [(.agg [(.bool false), (.bool false), (.bool false), (.bool false), (.bool false), (.bool false), (.bool false), (.bool false), (.bool false), (.bool true), (.bool false), (.bool false), (.int .i64 0)]), (.bool true)])) (ob (dBin .eql (proj 0 x0) (.int .i64 6)) fun d7 =>
 oif d7 (some (.tup [zA1, (.bool true)])) (ob (dBin .eql (proj 0 x0) (.int .i64 8)) fun d8 => oif d8 (some (.tup [zA1, (.bool true)])) (ob (dBin .eql (proj 0 x0) (.int .i64 10)) fun d9 => oif d9 (some (.tup [zA1, (.bool true)])) (ob (dBin .eql (proj 0 x0) (.int .i64 9)) fun d10 => oif d10 (some (.tup [(.agg [(.bool true), (.bool false), (.bool false), (.bool false), (.bool false), (.bool false), (.bool false), (.bool false), (.bool false), (.bool true), (.bool false), (.bool false), (.int .i64 1)]), (.bool true)])) (ob (dBin .eql (proj 0 x0) (.int .i64 11)) fun d11 => oif d11 (some (.tup [(.agg [(.bool true), (.bool false), (.bool false), (.bool false), (.bool false), (.bool false), (.bool true), (.bool false), (.bool false), (.bool false), (.bool false), (.bool false), (.int .i64 2)]), (.bool true)])) (ob (dBin .eql (proj 0 x0) (.int .i64 12)) fun d12 => oif d12 (some (.tup [(.agg [(.bool true), (.bool true), (.bool false), (.bool false), (.bool false), (.bool false), (.bool true), (.bool false), (.bool false), (.bool true), (.bool true), (.bool false), (.int .i64 2)]), (.bool true)])) (ob (dBin .eql (proj 0 x0) (.int .i64 13)) fun d13 => oif d13 (some (.tup [(.agg [(.bool false), (.bool false), (.bool false), (.bool false), (.bool false), (.bool false), (.bool false), (.bool false), (.bool false), (.bool false), (.bool false), (.bool false), (.int .i64 3)]), (.bool true)])) (ob (dBin .eql (proj 0 x0) (.int .i64 14)) fun d14 =>
 oif d14 (ob (dLen (proj 18 x0)) fun d15 => ob (dBin .add d15 (.int .i64 1)) fun d16 => og (isCell d16) <| ob (dLen (proj 18 x0)) fun d17 => ob (dBin .gtr d17 (.int .i64 0)) fun d18 => some (.tup [(.agg [(.bool false), (.bool false), (.bool false), (.bool false), (.bool false), (.bool true), (.bool false), (.bool false), (.bool true), (.bool false), (.bool false), (.bool false), d16]), d18])) (ob (dBin .eql (proj 0 x0) (.int .i64 15)) fun d19 => oif d19 (some (.tup [(.agg [(.bool false), (.bool false), (.bool false), (.bool false), (.bool true), (.bool true), (.bool false), (.bool false), (.bool false), (.bool false), (.bool false), (.bool false), (.int .i64 2)]), (.bool true)])) (ob (dBin .eql (proj 0 x0) (.int .i64 16)) fun d20 => oif d20 (some (.tup [(.agg [(.bool false), (.bool false), (.bool false), (.bool false), (.bool false), (.bool false), (.bool false), (.bool false), (.bool false), (.bool true), (.bool true), (.bool true), (.int .i64 1)]), (.bool true)])) (some (.tup [zA0, (.bool false)])))))))))))))))))) := evP_of [] (by kernel_rfl)
theorem call_term_shapeOf (x0 : DV) {d : DV} (h : P_term_shapeOf (run cfg) x0 = some d) : (run cfg).p F_term_shapeOf [x0] = some d := callE Tryz.func111 (by kernel_rfl) (by kernel_rfl) (by kernel_rfl) h
noncomputable def P_term_named (R : Orc) (x0 x1 : DV) : Option DV := eP Tryz.f112 fl_term_named R [] (initSt Tryz.f112 [(x0, .val), (x1, .val)] [])
theorem eq_term_named (R : Orc) (x0 x1 : DV) : P_term_named R x0 x1 =
 (oif x0 (ob (R.p F_word_Name [x1]) fun d1 => some d1) (ob (dBin .eql x1 (.str ⟨#[]⟩)) fun d2 => some d2)) := evP_of [] (by kernel_rfl)
theorem call_term_named (x0 x1 : DV) {d : DV} (h : P_term_named (run cfg) x0 x1 = some d) : (run cfg).p F_term_named [x0, x1] = some d := callE Tryz.func112 (by kernel_rfl) (by kernel_rfl) (by kernel_rfl) h
noncomputable def P_term_typed (R : Orc) (x0 x1 : DV) : Option DV := eP Tryz.f113 fl_term_typed R [] (initSt Tryz.f113 [(x0, .val), (x1, .val)] [])
theorem eq_term_typed (R : Orc) (x0 x1 : DV) : P_term_typed R x0 x1 =
 (og (isAggN 3 x1) <| oif x0 (ob (R.p F_typ_Check [(ag3 x1)]) fun d1 => ob (dBin .eql d1 (.int .i64 0)) fun d2 => some d2) (ob (R.p F_term_none [(ag3 x1)]) fun d3 => some d3)) := evP_of [] (by kernel_rfl)
theorem call_term_typed (x0 x1 : DV) {d : DV} (h : P_term_typed (run cfg) x0 x1 = some d) : (run cfg).p F_term_typed [x0, x1] = some d := callE Tryz.func113 (by kernel_rfl) (by kernel_rfl) (by kernel_rfl) h
noncomputable def P_term_lists (R : Orc) (x0 : DV) : Option DV := eP Tryz.f114 fl_term_lists R [] (initSt Tryz.f114 [(x0, .val)] [])
noncomputable def P_term_lists_2h (R : Orc) (t10 t11 t12 b1 : DV) : Option DV := hP Tryz.f114 fl_term_lists R [true, false, true, false] (mst 45 [(10, t10), (11, t11), (12, t12)] [(1, (.loc 1 0))] [(1, some (bxs b1 0 20))] [])
noncomputable def P_term_lists_8h (R : Orc) (t24 t25 t26 b1 : DV) : Option DV := hP Tryz.f114 fl_term_lists R [true, true, false, true, false] (mst 45 [(24, t24), (25, t25), (26, t26)] [(1, (.loc 1 0))] [(1, some (bxs b1 0 20))] [])
noncomputable def P_term_lists_14h (R : Orc) (t35 t36 t37 : DV) : Option DV := hP Tryz.f114 fl_term_lists R [true, true, true, false, true, false] (mst 45 [(35, t35), (36, t36), (37, t37)] [] [] [])
theorem eq_term_lists (R : Orc) (x0 : DV) : P_term_lists R x0 =
 (og (isAggN 20 x0) <| ob (dLen (proj 10 x0)) fun d1 => P_term_lists_2h R (proj 10 x0) d1 (.int .i64 0) x0) := evP_of [] (by kernel_rfl)
theorem eq_term_lists_2h (R : Orc) (t10 t11 t12 b1 : DV) : P_term_lists_2h R t10 t11 t12 b1 =
 (ob (dBin .lss t12 t11) fun d1 => oif d1 (ob (dIdx 1 t10 t12) fun d2 => og (isLeaf d2) <| ob (dBin .lss d2 (.int .i64 0)) fun d3 => ogd d3 (some (.bool false)) (ob (dBin .gtr d2 (.int .i64 1048576)) fun d4 => oif d4 (some (.bool false)) (ob (dBin .add t12 (.int .i64 1)) fun d5 => P_term_lists_2h R t10 t11 d5 b1)) none) (ob (dLen (proj 17 b1)) fun d6 => P_term_lists_8h R (proj 17 b1) d6 (.int .i64 0) b1)) := headP_of [] (by kernel_rfl)
theorem eq_term_lists_8h (R : Orc) (t24 t25 t26 b1 : DV) : P_term_lists_8h R t24 t25 t26 b1 =
 (ob (dBin .lss t26 t25) fun d1 => oif d1 (ob (dIdx 3 t24 t26) fun d2 => ob (R.p F_typ_Check [(ag3 d2)]) fun d3 => ob (dBin .neq d3 (.int .i64 0)) fun d4 => oif d4 (some (.bool false)) (ob (dBin .add t26 (.int .i64 1)) fun d5 => P_term_lists_8h R t24 t25 d5 b1)) (ob (dLen (proj 18 b1)) fun d6 => P_term_lists_14h R (proj 18 b1) d6 (.int .i64 0))) := headP_of [] (by kernel_rfl)
theorem eq_term_lists_14h (R : Orc) (t35 t36 t37 : DV) : P_term_lists_14h R t35 t36 t37 =
 (ob (dBin .lss t37 t36) fun d1 => oif d1 (ob (dIdx 7 t35 t37) fun d2 => ob (R.p F_tree_CheckPat [(ag7 d2)]) fun d3 => ob (dBin .neq d3 (.int .i64 0)) fun d4 => oif d4 (some (.bool false)) (ob (dBin .add t37 (.int .i64 1)) fun d5 => P_term_lists_14h R t35 t36 d5)) (some (.bool true))) := headP_of [] (by kernel_rfl)
theorem call_term_lists (x0 : DV) {d : DV} (h : P_term_lists (run cfg) x0 = some d) : (run cfg).p F_term_lists [x0] = some d := callE Tryz.func114 (by kernel_rfl) (by kernel_rfl) (by kernel_rfl) h
noncomputable def code_slices_DeleteFunc__api_Bind_api_Bind : Code := Tryz.f115.body.getD .skip
noncomputable def P_slices_DeleteFunc__api_Bind_api_Bind (R : Orc) (x0i x0o x0n x1_0 : Nat) (sg : List SObj) : Option (List DV × List SObj) := evP cfg R fl_slices_DeleteFunc__api_Bind_api_Bind (retR cfg.P Tryz.f115 sig_slices_DeleteFunc__api_Bind_api_Bind) [] code_slices_DeleteFunc__api_Bind_api_Bind (initSt Tryz.f115 [(.undef, (.arr x0i 4 x0o x0n)), (.undef, (.fn 117 [(x1_0, 0)]))] sg)
noncomputable def P_slices_DeleteFunc__api_Bind_api_Bind_5h (R : Orc) (t0r0 t0r2 t0r3 t1c0 : Nat) (t5 t6 : DV) (sg : List SObj) : Option (List DV × List SObj) := headP cfg R fl_slices_DeleteFunc__api_Bind_api_Bind (retR cfg.P Tryz.f115 sig_slices_DeleteFunc__api_Bind_api_Bind) [true, true, true, false, true, false] code_slices_DeleteFunc__api_Bind_api_Bind (mst 42 [(5, t5), (6, t6)] [(0, (.arr t0r0 4 t0r2 t0r3)), (1, (.fn 117 [(t1c0, 0)]))] [] sg)
theorem eq_slices_DeleteFunc__api_Bind_api_Bind (R : Orc) (x0i x0o x0n x1_0 : Nat) (sg : List SObj) : P_slices_DeleteFunc__api_Bind_api_Bind R x0i x0o x0n x1_0 sg =
 (ob (R.r F_slices_IndexFunc__api_Bind_api_Bind [(.undef, (.arr x0i 4 x0o x0n)), (.undef, (.fn 117 [(x1_0, 0)]))] sg) fun q1 => ob (dBin .eql (q1.1.getD 0 .undef) (.int .i64 (-1))) fun d2 => oif d2 (ob (seqO [sealCell q1.2 (.undef, (.arr x0i 4 x0o x0n))]) fun ds => some (ds, (q1.2.set x0i (SObj.arr 1 [])))) (ob (dBin .add (q1.1.getD 0 .undef) (.int .i64 1)) fun d3 => P_slices_DeleteFunc__api_Bind_api_Bind_5h R x0i x0o x0n x1_0 (q1.1.getD 0 .undef) d3 q1.2)) := evP_of [] (by kernel_rfl)
theorem eq_slices_DeleteFunc__api_Bind_api_Bind_5h (R : Orc) (t0r0 t0r2 t0r3 t1c0 : Nat) (t5 t6 : DV) (sg : List SObj) : P_slices_DeleteFunc__api_Bind_api_Bind_5h R t0r0 t0r2 t0r3 t1c0 t5 t6 sg =
 (ob (dBin .lss t6 (.int .i64 t0r3)) fun d1 => oif d1 (ob (arrIdx t0r2 t0r3 t6) fun n2 => ob (sgArr sg t0r0) fun r3 => ob (r3.2[n2]?) fun d4 => og (r3.1 == 4) <| ob (R.r F_term_outside_1 [((.agg [(proj 0 d4), (proj 1 d4), (proj 2 d4), (proj 3 d4)]), .val), (.undef, (.ptr t1c0 0))] sg) fun q5 => ob (dUn .not (q5.1.getD 0 .undef)) fun d6 => oif d6 (ob (arrIdx t0r2 t0r3 t5) fun n7 => ob (sgArr q5.2 t0r0) fun r8 => ob (r8.2[n7]?) fun u9 => og (r8.1 == 4) <| ob (dBin .add t5 (.int .i64 1)) fun d10 => ob (dBin .add t6 (.int .i64 1)) fun d11 => P_slices_DeleteFunc__api_Bind_api_Bind_5h R t0r0 t0r2 t0r3 t1c0 d10 d11 (q5.2.set t0r0 (.arr 4 (r8.2.set n7 (.agg [(proj 0 d4), (proj 1 d4), (proj 2 d4), (proj 3 d4)]))))) (ob (dBin .add t6 (.int .i64 1)) fun d12 => P_slices_DeleteFunc__api_Bind_api_Bind_5h R t0r0 t0r2 t0r3 t1c0 t5 d12 q5.2)) (ob (bnd 0 (some t5)) fun n13 => if n13 ≤ t0r3 ∧ t0r3 ≤ t0r3 then (ob (sgArr sg t0r0) fun r14 => og (r14.1 == 4 && true && true && decide ((t0r2 + n13) + (t0r3 - n13) ≤ r14.2.length)) <| ob (bnd t0r3 (some t5)) fun n15 => if 0 ≤ n15 ∧ n15 ≤ t0r3 then (ob (seqO [sealCell (sg.set t0r0 (.arr 4 (r14.2.take (t0r2 + n13)))) (.undef, (.arr t0r0 4 (t0r2 + 0) (n15 - 0)))]) fun ds =>
 some (ds, ((sg.set t0r0 (.arr 4 (r14.2.take (t0r2 + n13)))).set t0r0 (SObj.arr 1 [])))) else none) else none)) := headP_of [] (by kernel_rfl)
theorem fix_slices_DeleteFunc__api_Bind_api_Bind (x0i x0o x0n x1_0 : Nat) (sg : List SObj) : (run cfg).r F_slices_DeleteFunc__api_Bind_api_Bind [(.undef, (.arr x0i 4 x0o x0n)), (.undef, (.fn 117 [(x1_0, 0)]))] sg = P_slices_DeleteFunc__api_Bind_api_Bind (run cfg) x0i x0o x0n x1_0 sg :=
 (fix_raw (C := cfg) (f := F_slices_DeleteFunc__api_Bind_api_Bind) (s := sig_slices_DeleteFunc__api_Bind_api_Bind) (fn := Tryz.f115) (c := code_slices_DeleteFunc__api_Bind_api_Bind) (by kernel_rfl) Tryz.func115 (by kernel_rfl)).trans (by kernel_rfl)
theorem call_slices_DeleteFunc__api_Bind_api_Bind (x0i x0o x0n x1_0 : Nat) (sg : List SObj) {q : List DV × List SObj} (h : P_slices_DeleteFunc__api_Bind_api_Bind (run cfg) x0i x0o x0n x1_0 sg = some q) : (run cfg).r F_slices_DeleteFunc__api_Bind_api_Bind [(.undef, (.arr x0i 4 x0o x0n)), (.undef, (.fn 117 [(x1_0, 0)]))] sg = some q := (fix_slices_DeleteFunc__api_Bind_api_Bind x0i x0o x0n x1_0 sg).trans h
noncomputable def code_term_outside_1 : Code := Tryz.f117.body.getD .skip
noncomputable def P_term_outside_1 (R : Orc) (x0 : DV) (x1 : Nat) (sg : List SObj) : Option (List DV × List SObj) := evP cfg R fl_term_outside_1 (retR cfg.P Tryz.f117 sig_term_outside_1) [] code_term_outside_1 (initSt Tryz.f117 [(x0, .val), (.undef, (.ptr x1 0))] sg)
theorem eq_term_outside_1 (R : Orc) (x0 : DV) (x1 : Nat) (sg : List SObj) : P_term_outside_1 R x0 x1 sg =
 (og (isAggN 4 x0) <| ob (sgBox sg x1) fun c1 => ob (cellDat c1 10) fun d2 => ob (R.p F_slices_Contains__int_int [d2, (proj 0 x0)]) fun d3 => some ([d3], sg)) := evP_of [] (by kernel_rfl)
theorem fix_term_outside_1 (x0 : DV) (x1 : Nat) (sg : List SObj) : (run cfg).r F_term_outside_1 [(x0, .val), (.undef, (.ptr x1 0))] sg = P_term_outside_1 (run cfg) x0 x1 sg :=
 (fix_raw (C := cfg) (f := F_term_outside_1) (s := sig_term_outside_1) (fn := Tryz.f117) (c := code_term_outside_1) (by kernel_rfl) Tryz.func117 (by kernel_rfl)).trans (by kernel_rfl)
theorem call_term_outside_1 (x0 : DV) (x1 : Nat) (sg : List SObj) {q : List DV × List SObj} (h : P_term_outside_1 (run cfg) x0 x1 sg = some q) : (run cfg).r F_term_outside_1 [(x0, .val), (.undef, (.ptr x1 0))] sg = some q := (fix_term_outside_1 x0 x1 sg).trans h
noncomputable def P_slices_Contains__int_int (R : Orc) (x0 x1 : DV) : Option DV := eP Tryz.f118 fl_slices_Contains__int_int R [] (initSt Tryz.f118 [(x0, .val), (x1, .val)] [])
theorem eq_slices_Contains__int_int (R : Orc) (x0 x1 : DV) : P_slices_Contains__int_int R x0 x1 =
 (ob (R.p F_slices_Index__int_int [x0, x1]) fun d1 => ob (dBin .geq d1 (.int .i64 0)) fun d2 => some d2) := evP_of [] (by kernel_rfl)
theorem call_slices_Contains__int_int (x0 x1 : DV) {d : DV} (h : P_slices_Contains__int_int (run cfg) x0 x1 = some d) : (run cfg).p F_slices_Contains__int_int [x0, x1] = some d := callE Tryz.func118 (by kernel_rfl) (by kernel_rfl) (by kernel_rfl) h
noncomputable def P_typ_arity (R : Orc) (x0 : DV) : Option DV := eP Tryz.f119 fl_typ_arity R [] (initSt Tryz.f119 [(x0, .val)] [])
theorem eq_typ_arity (R : Orc) (x0 : DV) : P_typ_arity R x0 =
 (ob (dBin .eql x0 (.int .i64 1)) fun d1 => oif d1 (some (.int .i64 0)) (ob (dBin .eql x0 (.int .i64 2)) fun d2 => oif d2 (some (.int .i64 0)) (ob (dBin .eql x0 (.int .i64 3)) fun d3 => oif d3 (some (.int .i64 0)) (ob (dBin .eql x0 (.int .i64 4)) fun d4 => oif d4 (some (.int .i64 0)) (ob (dBin .eql x0 (.int .i64 5)) fun d5 => oif d5 (some (.int .i64 0)) (ob (dBin .eql x0 (.int .i64 6)) fun d6 => oif d6 (some (.int .i64 0)) (ob (dBin .eql x0 (.int .i64 8)) fun d7 => oif d7 (some (.int .i64 1)) (ob (dBin .eql x0 (.int .i64 7)) fun d8 => oif d8 (some (.int .i64 2)) (ob (dBin .eql x0 (.int .i64 9)) fun d9 => oif d9 (some (.int .i64 2)) (some (.int .i64 (-1)))))))))))) := evP_of [] (by kernel_rfl)
theorem call_typ_arity (x0 : DV) {d : DV} (h : P_typ_arity (run cfg) x0 = some d) : (run cfg).p F_typ_arity [x0] = some d := callE Tryz.func119 (by kernel_rfl) (by kernel_rfl) (by kernel_rfl) h
end Go.Su

/-
 Equations of the program's functions: by program.
-/
namespace Go.Su
open Go.Proofs
set_option linter.unusedVariables false
noncomputable def P_r01_digit (R : Orc) (x0 : DV) : Option DV := eP Tryz.f124 fl_r01_digit R [] (initSt Tryz.f124 [(x0, .val)] [])
theorem eq_r01_digit (R : Orc) (x0 : DV) : P_r01_digit R x0 =
 (ob (dBin .geq x0 (.int .u8 48)) fun d1 => ogd d1 (ob (dBin .leq x0 (.int .u8 57)) fun d2 => some d2) (some (.bool false)) none) := evP_of [] (by kernel_rfl)
theorem call_r01_digit (x0 : DV) {d : DV} (h : P_r01_digit (run cfg) x0 = some d) : (run cfg).p F_r01_digit [x0] = some d := callE Tryz.func124 (by kernel_rfl) (by kernel_rfl) (by kernel_rfl) h
noncomputable def P_r05_Same (R : Orc) (x0 x1 : DV) : Option DV := eP Tryz.f126 fl_r05_Same R [] (initSt Tryz.f126 [(x0, .val), (x1, .val)] [])
noncomputable def P_r05_Same_3 (R : Orc) (b2 b3 : DV) : Option DV := eP Tryz.f126 fl_r05_Same R [true, true] (mst 117 [] [(2, (.loc 2 0)), (3, (.loc 3 0))] [(2, some (bxs b2 0 16)), (3, some (bxs b3 0 16))] [])
noncomputable def P_r05_Same_6h (R : Orc) (t5 b2 b3 : DV) : Option DV := hP Tryz.f126 fl_r05_Same R [true, true, true, false, true, false] (mst 117 [(5, t5)] [(2, (.loc 2 0)), (3, (.loc 3 0))] [(2, some (bxs b2 0 16)), (3, some (bxs b3 0 16))] [])
noncomputable def P_r05_Same_11h (R : Orc) (t6 b2 b3 : DV) : Option DV := hP Tryz.f126 fl_r05_Same R [true, true, true, true, false, true, false] (mst 117 [(6, t6)] [(2, (.loc 2 0)), (3, (.loc 3 0))] [(2, some (bxs b2 0 16)), (3, some (bxs b3 0 16))] [])
set_option maxRecDepth 100000 in
theorem eq_r05_Same (R : Orc) (x0 x1 : DV) : P_r05_Same R x0 x1 =
 (og (isAggN 16 x0) <| og (isAggN 16 x1) <| ob (dBin .neq (proj 0 x0) (proj 0 x1)) fun d1 => ogd d1 (some (.bool false)) (ob (dBin .neq (proj 3 x0) (proj 3 x1)) fun d2 => ogd d2 (some (.bool false)) (ob (dBin .neq (proj 4 x0) (proj 4 x1)) fun d3 => ogd d3 (some (.bool false)) (ob (dBin .neq (proj 5 x0) (proj 5 x1)) fun d4 => ogd d4 (some (.bool false)) (ob (dBin .neq (proj 6 x0) (proj 6 x1)) fun d5 => ogd d5 (some (.bool false)) (ob (dBin .neq (proj 7 x0) (proj 7 x1)) fun d6 => ogd d6 (some (.bool false)) (ob (dLen (proj 14 x0)) fun d7 => ob (dLen (proj 14 x1)) fun d8 => ob (dBin .neq d7 d8) fun d9 => ogd d9 (some (.bool false)) (ob (dLen (proj 15 x0)) fun d10 => ob (dLen (proj 15 x1)) fun d11 => ob (dBin .neq d10 d11) fun d12 => oif d12 (some (.bool false)) (P_r05_Same_3 R x0 x1)) none) none) none) none) none) none) none) := evP_of [3] (by kernel_rfl)
theorem eq_r05_Same_3 (R : Orc) (b2 b3 : DV) : P_r05_Same_3 R b2 b3 =
 (ob (R.p F_r03_Same [(.agg [(proj 8 b2), (proj 9 b2), (proj 10 b2)]), (.agg [(proj 8 b3), (proj 9 b3), (proj 10 b3)])]) fun d1 => ob (dUn .not d1) fun d2 => ogd d2 (some (.bool false)) (ob (R.p F_r03_Same [(.agg [(proj 11 b2), (proj 12 b2), (proj 13 b2)]), (.agg [(proj 11 b3), (proj 12 b3), (proj 13 b3)])]) fun d3 => ob (dUn .not d3) fun d4 => oif d4 (some (.bool false)) (P_r05_Same_6h R (.int .i64 0) b2 b3)) none) := evP_of [3] (by kernel_rfl)
theorem eq_r05_Same_6h (R : Orc) (t5 b2 b3 : DV) : P_r05_Same_6h R t5 b2 b3 =
 (ob (dLen (proj 14 b2)) fun d1 => ob (dBin .lss t5 d1) fun d2 => oif d2 (ob (dIdx 7 (proj 14 b2) t5) fun d3 => ob (dIdx 7 (proj 14 b3) t5) fun d4 => ob (R.p F_r05_SamePat [(ag7 d3), (ag7 d4)]) fun d5 => ob (dUn .not d5) fun d6 => oif d6 (some (.bool false)) (ob (dBin .add t5 (.int .i64 1)) fun d7 => P_r05_Same_6h R d7 b2 b3)) (P_r05_Same_11h R (.int .i64 0) b2 b3)) := headP_of [3] (by kernel_rfl)
theorem eq_r05_Same_11h (R : Orc) (t6 b2 b3 : DV) : P_r05_Same_11h R t6 b2 b3 =
 (ob (dLen (proj 15 b2)) fun d1 => ob (dBin .lss t6 d1) fun d2 => oif d2 (ob (dIdx 16 (proj 15 b2) t6) fun d3 => ob (dIdx 16 (proj 15 b3) t6) fun d4 => ob (R.p F_r05_Same [(ag16 d3), (ag16 d4)]) fun d5 => ob (dUn .not d5) fun d6 => oif d6 (some (.bool false)) (ob (dBin .add t6 (.int .i64 1)) fun d7 => P_r05_Same_11h R d7 b2 b3)) (some (.bool true))) := headP_of [3] (by kernel_rfl)
theorem call_r05_Same (x0 x1 : DV) {d : DV} (h : P_r05_Same (run cfg) x0 x1 = some d) : (run cfg).p F_r05_Same [x0, x1] = some d := callE Tryz.func126 (by kernel_rfl) (by kernel_rfl) (by kernel_rfl) h
noncomputable def P_r05_patAt (R : Orc) (x0 x1 : DV) : Option DV := eP Tryz.f127 fl_r05_patAt R [] (initSt Tryz.f127 [(x0, .val), (x1, .val)] [])
noncomputable def P_r05_patAt_4h (R : Orc) (t5 b2 b3 : DV) : Option DV := hP Tryz.f127 fl_r05_patAt R [true, true, false, true, false] (mst 30 [(5, t5)] [(2, (.loc 2 0)), (3, (.loc 3 0))] [(2, some (bxs b2 0 7)), (3, some (bxs b3 0 7))] [])
theorem eq_r05_patAt (R : Orc) (x0 x1 : DV) : P_r05_patAt R x0 x1 =
 (og (isAggN 7 x0) <| og (isAggN 7 x1) <| ob (dEqA [.int, .int] (.agg [(proj 1 x0), (proj 2 x0)]) (.agg [(proj 1 x1), (proj 2 x1)])) fun b1 => oif (.bool !b1) (some (.bool false)) (P_r05_patAt_4h R (.int .i64 0) x0 x1)) := evP_of [] (by kernel_rfl)
theorem eq_r05_patAt_4h (R : Orc) (t5 b2 b3 : DV) : P_r05_patAt_4h R t5 b2 b3 =
 (ob (dLen (proj 6 b2)) fun d1 => ob (dBin .lss t5 d1) fun d2 => oif d2 (ob (dIdx 7 (proj 6 b2) t5) fun d3 => ob (dIdx 7 (proj 6 b3) t5) fun d4 => ob (R.p F_r05_patAt [(ag7 d3), (ag7 d4)]) fun d5 => ob (dUn .not d5) fun d6 => oif d6 (some (.bool false)) (ob (dBin .add t5 (.int .i64 1)) fun d7 => P_r05_patAt_4h R d7 b2 b3)) (some (.bool true))) := headP_of [] (by kernel_rfl)
theorem call_r05_patAt (x0 x1 : DV) {d : DV} (h : P_r05_patAt (run cfg) x0 x1 = some d) : (run cfg).p F_r05_patAt [x0, x1] = some d := callE Tryz.func127 (by kernel_rfl) (by kernel_rfl) (by kernel_rfl) h
noncomputable def code_typ_vars : Code := Tryz.f128.body.getD .skip
noncomputable def P_typ_vars (R : Orc) (x0 : DV) (x1 : Nat) (x2 : DV) (sg : List SObj) : Option (List DV × List SObj) := evP cfg R fl_typ_vars (retR cfg.P Tryz.f128 sig_typ_vars) [] code_typ_vars (initSt Tryz.f128 [(x0, .val), (.undef, (.map x1)), (x2, .own)] sg)
noncomputable def P_typ_vars_5 (R : Orc) (t1i : Nat) (t2 b3 : DV) (sg : List SObj) : Option (List DV × List SObj) := evP cfg R fl_typ_vars (retR cfg.P Tryz.f128 sig_typ_vars) [true, true] code_typ_vars (mst 40 [(2, t2)] [(1, (.map t1i)), (2, .own), (3, (.loc 3 0))] [(3, some (bxs b3 0 3))] sg)
noncomputable def P_typ_vars_6h (R : Orc) (t1i : Nat) (t2 t28 t29 t30 : DV) (sg : List SObj) : Option (List DV × List SObj) := headP cfg R fl_typ_vars (retR cfg.P Tryz.f128 sig_typ_vars) [true, true, false, true, false] code_typ_vars (mst 40 [(2, t2), (28, t28), (29, t29), (30, t30)] [(1, (.map t1i)), (2, .own)] [] sg)
theorem eq_typ_vars (R : Orc) (x0 : DV) (x1 : Nat) (x2 : DV) (sg : List SObj) : P_typ_vars R x0 x1 x2 sg =
 (og (isAggN 3 x0) <| ob (dBin .eql (proj 0 x0) (.int .i64 6)) fun d1 => oif d1 (og (isKey false (proj 1 x0) && true) <| ob (sgMap sg x1) fun m2 => og (m2.1 == false) <| ob (dBin .eql ((mGet m2.2 (proj 1 x0)).getD (.int .i64 0)) (.int .i64 0)) fun d3 => oif d3 (og (isCell (proj 1 x0)) <| ob (dApp 1 x2 (.list 1 [(proj 1 x0)])) fun d4 => og (isKey false (proj 1 x0) && true) <| ob (sgMap sg x1) fun m5 => og (m5.1 == false) <| ob (dBin .add ((mGet m5.2 (proj 1 x0)).getD (.int .i64 0)) (.int .i64 1)) fun d6 => og (isKey false (proj 1 x0) && true && true) <| ob (sgMap sg x1) fun m7 => og (m7.1 == false) <| P_typ_vars_5 R x1 d4 x0 (sg.set x1 (.map false (mSet m7.2 (proj 1 x0) d6)))) (og (isKey false (proj 1 x0) && true) <| ob (sgMap sg x1) fun m8 => og (m8.1 == false) <| ob (dBin .add ((mGet m8.2 (proj 1 x0)).getD (.int .i64 0)) (.int .i64 1)) fun d9 => og (isKey false (proj 1 x0) && true && true) <| ob (sgMap sg x1) fun m10 => og (m10.1 == false) <| P_typ_vars_5 R x1 x2 x0 (sg.set x1 (.map false (mSet m10.2 (proj 1 x0) d9))))) (P_typ_vars_5 R x1 x2 x0 sg)) := evP_of [5] (by kernel_rfl)
theorem eq_typ_vars_5 (R : Orc) (t1i : Nat) (t2 b3 : DV) (sg : List SObj) : P_typ_vars_5 R t1i t2 b3 sg =
 (ob (dLen (proj 2 b3)) fun d1 => P_typ_vars_6h R t1i t2 (proj 2 b3) d1 (.int .i64 0) sg) := evP_of [5] (by kernel_rfl)
theorem eq_typ_vars_6h (R : Orc) (t1i : Nat) (t2 t28 t29 t30 : DV) (sg : List SObj) : P_typ_vars_6h R t1i t2 t28 t29 t30 sg =
 (ob (dBin .lss t30 t29) fun d1 => oif d1 (ob (dIdx 3 t28 t30) fun d2 => ob (R.r F_typ_vars [((ag3 d2), .val), (.undef, (.map t1i)), (t2, .own)] sg) fun q3 => ob (dBin .add t30 (.int .i64 1)) fun d4 => P_typ_vars_6h R t1i (q3.1.getD 0 .undef) t28 t29 d4 q3.2) (some ([t2], sg))) := headP_of [5] (by kernel_rfl)
theorem fix_typ_vars (x0 : DV) (x1 : Nat) (x2 : DV) (sg : List SObj) : (run cfg).r F_typ_vars [(x0, .val), (.undef, (.map x1)), (x2, .own)] sg = P_typ_vars (run cfg) x0 x1 x2 sg :=
 (fix_raw (C := cfg) (f := F_typ_vars) (s := sig_typ_vars) (fn := Tryz.f128) (c := code_typ_vars) (by kernel_rfl) Tryz.func128 (by kernel_rfl)).trans (by kernel_rfl)
theorem call_typ_vars (x0 : DV) (x1 : Nat) (x2 : DV) (sg : List SObj) {q : List DV × List SObj} (h : P_typ_vars (run cfg) x0 x1 x2 sg = some q) : (run cfg).r F_typ_vars [(x0, .val), (.undef, (.map x1)), (x2, .own)] sg = some q := (fix_typ_vars x0 x1 x2 sg).trans h
noncomputable def code_tree_CheckPat : Code := Tryz.f129.body.getD .skip
noncomputable def P_tree_CheckPat (R : Orc) (x0 : DV) : Option DV := eP Tryz.f129 fl_tree_CheckPat R [] (initSt Tryz.f129 [(x0, .val)] [])
noncomputable def P_tree_CheckPat_r0 (R : Orc) (t0 t6 : DV) (sg : List SObj) : Option DV := eP Tryz.f129 fl_tree_CheckPat R [true, true, false, true, false] (mst 32 [(0, t0), (4, (.tup [])), (6, t6), (8, (.tup [])), (9, (.tup [])), (10, (.tup [])), (11, (.tup [])), (12, (.tup [])), (13, (.tup [])), (14, (.tup [])), (15, (.tup [])), (16, (.tup [])), (17, (.tup [])), (18, (.tup [])), (19, (.tup [])), (20, (.tup [])), (21, (.tup [])), (22, (.tup [])), (23, (.tup [])), (24, (.tup [])), (25, (.tup [])), (26, (.tup [])), (27, (.tup [])), (28, (.tup [])), (29, (.tup [])), (30, (.tup [])), (31, (.tup []))] [(1, (.ptr 0 0)), (2, (.ptr 1 0)), (3, (.ptr 3 0)), (5, (.map 2)), (7, (.fn 159 [(4, 0)]))] [] sg)
noncomputable def rcode_tree_CheckPat_r0 : Code := match (sub [true, true, false, true, false] code_tree_CheckPat []).1 with
 | .rangeFunc _ _ a b => .seq a b
 | c => c
noncomputable def X_tree_CheckPat_r0 (R : Orc) (t0 t6 : DV) (o : Out) (sg : List SObj) : Option DV := konP cfg R fl_tree_CheckPat (retP cfg.P Tryz.f129) [true, true, false, true, false] code_tree_CheckPat o (outerSt ⟨spread .undef 32 0 [(0, t0), (4, (.tup [])), (6, t6), (8, (.tup [])), (9, (.tup [])), (10, (.tup [])), (11, (.tup [])), (12, (.tup [])), (13, (.tup [])), (14, (.tup [])), (15, (.tup [])), (16, (.tup [])), (17, (.tup [])), (18, (.tup [])), (19, (.tup [])), (20, (.tup [])), (21, (.tup [])), (22, (.tup [])), (23, (.tup [])), (24, (.tup [])), (25, (.tup [])), (26, (.tup [])), (27, (.tup [])), (28, (.tup [])), (29, (.tup [])), (30, (.tup [])), (31, (.tup []))], spread .val 32 0 [(1, (.ptr 0 0)), (2, (.ptr 1 0)), (3, (.ptr 3 0)), (5, (.map 2)), (7, (.fn 159 [(4, 0)]))], spread none 32 0 [], []⟩ sg)
noncomputable def B_tree_CheckPat_r0 (R : Orc) (t0 t6 : DV) (I : List SObj → Option DV) (x : DV) (sg : List SObj) : Option DV := evP cfg R fl_tree_CheckPat (kr I (X_tree_CheckPat_r0 R t0 t6)) [] rcode_tree_CheckPat_r0 (mst 32 [(8, x)] [(2, (.ptr 1 0)), (3, (.ptr 3 0))] [] sg)
noncomputable def I_tree_CheckPat_r0 (R : Orc) (t0 t6 : DV) : List DV → List SObj → Option DV := foldIt (fun x I sg => B_tree_CheckPat_r0 R t0 t6 I x sg) (X_tree_CheckPat_r0 R t0 t6 .normal)
noncomputable def P_tree_CheckPat_6 (R : Orc) (t0 t6 : DV) (I : List SObj → Option DV) (b4 : DV) (sg : List SObj) : Option DV := evP cfg R fl_tree_CheckPat (kr I (X_tree_CheckPat_r0 R t0 t6)) [true, false, true] rcode_tree_CheckPat_r0 (mst 32 [] [(3, (.ptr 3 0)), (4, (.loc 4 0))] [(4, some (bxs b4 0 7))] sg)
theorem eq_tree_CheckPat (R : Orc) (x0 : DV) : P_tree_CheckPat R x0 =
 (og (isAggN 7 x0) <| P_tree_CheckPat_r0 R x0 (ag7 x0) [SObj.box [((proj 0 x0), .val), ((proj 1 x0), .val), ((proj 2 x0), .val), ((proj 3 x0), .val), ((proj 4 x0), .val), ((proj 5 x0), .val), ((proj 6 x0), .val)], SObj.box [((.int .i64 0), .val)], .map true [], SObj.box [(.undef, (.map 2))], SObj.box [((proj 0 x0), .val), ((proj 1 x0), .val), ((proj 2 x0), .val), ((proj 3 x0), .val), ((proj 4 x0), .val), ((proj 5 x0), .val), ((proj 6 x0), .val)]]) := evP_of [6] (by kernel_rfl)
theorem eq_tree_CheckPat_r0 (R : Orc) (t0 t6 : DV) (sg : List SObj) : P_tree_CheckPat_r0 R t0 t6 sg =
 ob (sgBox sg 4) fun cs => ob (allDat cs) fun cd => ob (flatD 7 6 cd) fun ds => I_tree_CheckPat_r0 R t0 t6 ds (sg.set 4 (.arr 1 [])) := (rangeP2 (t := 7) (f := 159) (i := 4) (q := 8) (it := flatD 7 6) (by kernel_rfl) (by kernel_rfl) (by kernel_rfl) (by kernel_rfl)).trans (by kernel_rfl)
theorem I_tree_CheckPat_r0_nil (R : Orc) (t0 t6 : DV) (sg : List SObj) : I_tree_CheckPat_r0 R t0 t6 [] sg = X_tree_CheckPat_r0 R t0 t6 .normal sg := rfl
theorem I_tree_CheckPat_r0_cons (R : Orc) (t0 t6 x : DV) (ds : List DV) (sg : List SObj) : I_tree_CheckPat_r0 R t0 t6 (x :: ds) sg = B_tree_CheckPat_r0 R t0 t6 (I_tree_CheckPat_r0 R t0 t6 ds) x sg := rfl
theorem eq_B_tree_CheckPat_r0 (R : Orc) (t0 t6 : DV) (I : List SObj → Option DV) (x : DV) (sg : List SObj) : B_tree_CheckPat_r0 R t0 t6 I x sg = (og (isAggN 7 x) <| ob (R.p F_tree_onePat [(ag7 x)]) fun d1 => ob (dUn .not d1) fun d2 => ogd d2 (ob (sgBox sg 1) fun c3 => ob (c3[0]?) fun u4 => X_tree_CheckPat_r0 R t0 t6 .ret (sg.set 1 (SObj.box (c3.set 0 ((.int .i64 1), .val))))) (ob (dBin .eql (proj 0 x) (.int .i64 2)) fun d5 => ogd d5 (ob (sgBox sg 3) fun c6 => ob (cellMap c6 0) fun i7 => og (isKey true (proj 3 x) && true) <| ob (sgMap sg i7) fun m8 =>
 og (m8.1 == true) <| ob (dBin .gtr ((mGet m8.2 (proj 3 x)).getD (.int .i64 0)) (.int .i64 0)) fun d9 => oif d9 (ob (sgBox sg 1) fun c10 => ob (c10[0]?) fun u11 => X_tree_CheckPat_r0 R t0 t6 .ret (sg.set 1 (SObj.box (c10.set 0 ((.int .i64 1), .val))))) (P_tree_CheckPat_6 R t0 t6 I x sg)) (P_tree_CheckPat_6 R t0 t6 I x sg) none) none) := evP_of [6] (by kernel_rfl)
theorem eq_X_tree_CheckPat_r0_normal (R : Orc) (t0 t6 : DV) (sg : List SObj) : X_tree_CheckPat_r0 R t0 t6 .normal sg =
 (ob (sgBox sg 1) fun c1 => ob (c1[0]?) fun u2 => ret1 (ob (sgBox (sg.set 1 (SObj.box (c1.set 0 ((.int .i64 0), .val)))) 1) fun c => oneCell (sg.set 1 (SObj.box (c1.set 0 ((.int .i64 0), .val)))) c)) := konP_of [6] (by kernel_rfl)
theorem eq_X_tree_CheckPat_r0_ret (R : Orc) (t0 t6 : DV) (sg : List SObj) : X_tree_CheckPat_r0 R t0 t6 .ret sg = (ret1 (ob (sgBox sg 1) fun c => oneCell sg c)) := konP_of [6] (by kernel_rfl)
theorem eq_tree_CheckPat_6 (R : Orc) (t0 t6 : DV) (I : List SObj → Option DV) (b4 : DV) (sg : List SObj) : P_tree_CheckPat_6 R t0 t6 I b4 sg = (ob (dBin .eql (proj 0 b4) (.int .i64 2)) fun d1 => oif d1 (ob (sgBox sg 3) fun c2 => ob (cellMap c2 0) fun i3 => og (isKey true (proj 3 b4) && true) <| ob (sgMap sg i3) fun m4 => og (m4.1 == true) <| ob (dBin .add ((mGet m4.2 (proj 3 b4)).getD (.int .i64 0)) (.int .i64 1)) fun d5 => og (isKey true (proj 3 b4) && true && true) <| ob (sgMap sg i3) fun m6 => og (m6.1 == true) <| I (sg.set i3 (.map true (mSet m6.2 (proj 3 b4) d5)))) (I sg)) := evP_of [6] (by kernel_rfl)
theorem call_tree_CheckPat (x0 : DV) {d : DV} (h : P_tree_CheckPat (run cfg) x0 = some d) : (run cfg).p F_tree_CheckPat [x0] = some d := callE Tryz.func129 (by kernel_rfl) (by kernel_rfl) (by kernel_rfl) h
noncomputable def code_pats_bind : Code := Tryz.f130.body.getD .skip
noncomputable def P_pats_bind (R : Orc) (x0 x1 x2 : DV) (sg : List SObj) : Option (List DV × List SObj) := evP cfg R fl_pats_bind (retR cfg.P Tryz.f130 sig_pats_bind) [] code_pats_bind (initSt Tryz.f130 [(x0, .val), (x1, .val), (x2, .own)] sg)
noncomputable def P_pats_bind_16 (R : Orc) (t2 t8 b3 : DV) (sg : List SObj) : Option (List DV × List SObj) := evP cfg R fl_pats_bind (retR cfg.P Tryz.f130 sig_pats_bind) [true, true, true] code_pats_bind (mst 73 [(2, t2), (8, t8)] [(2, .own), (3, (.loc 3 0))] [(3, some (bxs b3 0 7))] sg)
noncomputable def P_pats_bind_17h (R : Orc) (t2 t8 t52 t53 t54 : DV) (sg : List SObj) : Option (List DV × List SObj) := headP cfg R fl_pats_bind (retR cfg.P Tryz.f130 sig_pats_bind) [true, true, true, false, true, false] code_pats_bind (mst 73 [(2, t2), (8, t8), (52, t52), (53, t53), (54, t54)] [(2, .own)] [] sg)
theorem eq_pats_bind (R : Orc) (x0 x1 x2 : DV) (sg : List SObj) : P_pats_bind R x0 x1 x2 sg =
 (og (isAggN 7 x0) <| og (isAggN 3 x1) <| ob (dBin .eql (proj 0 x0) (.int .i64 1)) fun d1 => oif d1 (some ([x2, (.bool true)], sg)) (ob (dBin .eql (proj 0 x0) (.int .i64 2)) fun d2 => oif d2 (og (isCell (proj 3 x0)) <| ob (dApp 4 x2 (.list 4 [(.agg [(proj 3 x0), (proj 0 x1), (proj 1 x1), (proj 2 x1)])])) fun d3 => some ([d3, (.bool true)], sg)) (ob (dBin .eql (proj 0 x0) (.int .i64 7)) fun d4 => oif d4 (ob (dBin .neq (proj 0 x1) (.int .i64 7)) fun d5 => oif d5 (some ([(.list 4 []), (.bool false)], sg)) (P_pats_bind_16 R x2 (proj 2 x1) x0 sg)) (ob (dBin .eql (proj 0 x0) (.int .i64 9)) fun d6 => oif d6 (ob (dBin .neq (proj 0 x1) (.int .i64 8)) fun d7 => oif d7 (some ([(.list 4 []), (.bool false)], sg)) (ob (dIdx 3 (proj 2 x1) (.int .i64 0)) fun d8 => P_pats_bind_16 R x2 (.list 3 [(ag3 d8), (ag3 x1)]) x0 sg)) (ob (R.p F_pats_leaf [(proj 0 x0)]) fun d9 => ob (dBin .eql (proj 0 x1) d9) fun d10 => some ([x2, d10], sg)))))) := evP_of [16] (by kernel_rfl)
theorem eq_pats_bind_16 (R : Orc) (t2 t8 b3 : DV) (sg : List SObj) : P_pats_bind_16 R t2 t8 b3 sg =
 (ob (dLen (proj 6 b3)) fun d1 => P_pats_bind_17h R t2 t8 (proj 6 b3) d1 (.int .i64 0) sg) := evP_of [16] (by kernel_rfl)
theorem eq_pats_bind_17h (R : Orc) (t2 t8 t52 t53 t54 : DV) (sg : List SObj) : P_pats_bind_17h R t2 t8 t52 t53 t54 sg =
 (ob (dBin .lss t54 t53) fun d1 => oif d1 (ob (dIdx 7 t52 t54) fun d2 => ob (dIdx 3 t8 t54) fun d3 => ob (R.r F_pats_bind [((ag7 d2), .val), ((ag3 d3), .val), (t2, .own)] sg) fun q4 => ob (dExt 0 (.tup q4.1)) fun d5 => ob (dExt 1 (.tup q4.1)) fun d6 => ob (dUn .not d6) fun d7 => oif d7 (some ([(.list 4 []), (.bool false)], q4.2)) (ob (dBin .add t54 (.int .i64 1)) fun d8 => P_pats_bind_17h R d5 t8 t52 t53 d8 q4.2)) (some ([t2, (.bool true)], sg))) := headP_of [16] (by kernel_rfl)
theorem fix_pats_bind (x0 x1 x2 : DV) (sg : List SObj) : (run cfg).r F_pats_bind [(x0, .val), (x1, .val), (x2, .own)] sg = P_pats_bind (run cfg) x0 x1 x2 sg :=
 (fix_raw (C := cfg) (f := F_pats_bind) (s := sig_pats_bind) (fn := Tryz.f130) (c := code_pats_bind) (by kernel_rfl) Tryz.func130 (by kernel_rfl)).trans (by kernel_rfl)
theorem call_pats_bind (x0 x1 x2 : DV) (sg : List SObj) {q : List DV × List SObj} (h : P_pats_bind (run cfg) x0 x1 x2 sg = some q) : (run cfg).r F_pats_bind [(x0, .val), (x1, .val), (x2, .own)] sg = some q := (fix_pats_bind x0 x1 x2 sg).trans h
noncomputable def P_agree_agrees (R : Orc) (x0 x1 : DV) : Option DV := eP Tryz.f131 fl_agree_agrees R [] (initSt Tryz.f131 [(x0, .val), (x1, .val)] [])
noncomputable def P_agree_agrees_8h (R : Orc) (t33 t34 t35 b3 : DV) : Option DV := hP Tryz.f131 fl_agree_agrees R [true, true, false, true, false] (mst 49 [(33, t33), (34, t34), (35, t35)] [(3, (.loc 3 0))] [(3, some (bxs b3 0 3))] [])
theorem eq_agree_agrees (R : Orc) (x0 x1 : DV) : P_agree_agrees R x0 x1 =
 (og (isAggN 3 x0) <| og (isAggN 3 x1) <| ob (dBin .eql (proj 0 x0) (.int .i64 5)) fun d1 => oif d1 (ob (R.p F_typ_Closed [(ag3 x1)]) fun d2 => some d2) (ob (dBin .eql (proj 0 x1) (.int .i64 5)) fun d3 => oif d3 (ob (R.p F_typ_Closed [(ag3 x0)]) fun d4 => some d4) (ob (dBin .neq (proj 0 x0) (proj 0 x1)) fun d5 => ogd d5 (some (.bool false)) (ob (dBin .neq (proj 1 x0) (proj 1 x1)) fun d6 => oif d6 (some (.bool false)) (ob (dLen (proj 2 x0)) fun d7 => P_agree_agrees_8h R (proj 2 x0) d7 (.int .i64 0) x1)) none))) := evP_of [] (by kernel_rfl)
theorem eq_agree_agrees_8h (R : Orc) (t33 t34 t35 b3 : DV) : P_agree_agrees_8h R t33 t34 t35 b3 =
 (ob (dBin .lss t35 t34) fun d1 => oif d1 (ob (dIdx 3 t33 t35) fun d2 => ob (dIdx 3 (proj 2 b3) t35) fun d3 => ob (R.p F_agree_agrees [(ag3 d2), (ag3 d3)]) fun d4 => ob (dUn .not d4) fun d5 => oif d5 (some (.bool false)) (ob (dBin .add t35 (.int .i64 1)) fun d6 => P_agree_agrees_8h R t33 t34 d6 b3)) (some (.bool true))) := headP_of [] (by kernel_rfl)
theorem call_agree_agrees (x0 x1 : DV) {d : DV} (h : P_agree_agrees (run cfg) x0 x1 = some d) : (run cfg).p F_agree_agrees [x0, x1] = some d := callE Tryz.func131 (by kernel_rfl) (by kernel_rfl) (by kernel_rfl) h
noncomputable def P_term_none (R : Orc) (x0 : DV) : Option DV := eP Tryz.f132 fl_term_none R [] (initSt Tryz.f132 [(x0, .val)] [])
theorem eq_term_none (R : Orc) (x0 : DV) : P_term_none R x0 =
 (og (isAggN 3 x0) <| ob (dBin .eql (proj 0 x0) (.int .i64 0)) fun d1 => ogd d1 (ob (dBin .eql (proj 1 x0) (.int .i64 0)) fun d2 => ogd d2 (ob (dLen (proj 2 x0)) fun d3 => ob (dBin .eql d3 (.int .i64 0)) fun d4 => some d4) (some (.bool false)) none) (some (.bool false)) none) := evP_of [] (by kernel_rfl)
theorem call_term_none (x0 : DV) {d : DV} (h : P_term_none (run cfg) x0 = some d) : (run cfg).p F_term_none [x0] = some d := callE Tryz.func132 (by kernel_rfl) (by kernel_rfl) (by kernel_rfl) h
noncomputable def code_slices_IndexFunc__api_Bind_api_Bind : Code := Tryz.f133.body.getD .skip
noncomputable def P_slices_IndexFunc__api_Bind_api_Bind (R : Orc) (x0i x0o x0n x1_0 : Nat) (sg : List SObj) : Option (List DV × List SObj) := evP cfg R fl_slices_IndexFunc__api_Bind_api_Bind (retR cfg.P Tryz.f133 sig_slices_IndexFunc__api_Bind_api_Bind) [] code_slices_IndexFunc__api_Bind_api_Bind (initSt Tryz.f133 [(.undef, (.arr x0i 4 x0o x0n)), (.undef, (.fn 117 [(x1_0, 0)]))] sg)
noncomputable def P_slices_IndexFunc__api_Bind_api_Bind_2h (R : Orc) (t0r0 t0r2 t0r3 t1c0 : Nat) (t7 t8 : DV) (sg : List SObj) : Option (List DV × List SObj) := headP cfg R fl_slices_IndexFunc__api_Bind_api_Bind (retR cfg.P Tryz.f133 sig_slices_IndexFunc__api_Bind_api_Bind) [true, false, true, false] code_slices_IndexFunc__api_Bind_api_Bind (mst 19 [(7, t7), (8, t8)] [(0, (.arr t0r0 4 t0r2 t0r3)), (1, (.fn 117 [(t1c0, 0)]))] [] sg)
theorem eq_slices_IndexFunc__api_Bind_api_Bind (R : Orc) (x0i x0o x0n x1_0 : Nat) (sg : List SObj) : P_slices_IndexFunc__api_Bind_api_Bind R x0i x0o x0n x1_0 sg =
 (P_slices_IndexFunc__api_Bind_api_Bind_2h R x0i x0o x0n x1_0 (.int .i64 x0n) (.int .i64 0) sg) := evP_of [] (by kernel_rfl)
theorem eq_slices_IndexFunc__api_Bind_api_Bind_2h (R : Orc) (t0r0 t0r2 t0r3 t1c0 : Nat) (t7 t8 : DV) (sg : List SObj) : P_slices_IndexFunc__api_Bind_api_Bind_2h R t0r0 t0r2 t0r3 t1c0 t7 t8 sg =
 (ob (dBin .lss t8 t7) fun d1 => oif d1 (ob (arrIdx t0r2 t0r3 t8) fun n2 => ob (sgArr sg t0r0) fun r3 => ob (r3.2[n2]?) fun d4 => og (r3.1 == 4) <| ob (R.r F_term_outside_1 [((.agg [(proj 0 d4), (proj 1 d4), (proj 2 d4), (proj 3 d4)]), .val), (.undef, (.ptr t1c0 0))] sg) fun q5 => oif (q5.1.getD 0 .undef) (some ([t8], q5.2)) (ob (dBin .add t8 (.int .i64 1)) fun d6 => P_slices_IndexFunc__api_Bind_api_Bind_2h R t0r0 t0r2 t0r3 t1c0 t7 d6 q5.2)) (some ([(.int .i64 (-1))], sg))) := headP_of [] (by kernel_rfl)
theorem fix_slices_IndexFunc__api_Bind_api_Bind (x0i x0o x0n x1_0 : Nat) (sg : List SObj) : (run cfg).r F_slices_IndexFunc__api_Bind_api_Bind [(.undef, (.arr x0i 4 x0o x0n)), (.undef, (.fn 117 [(x1_0, 0)]))] sg = P_slices_IndexFunc__api_Bind_api_Bind (run cfg) x0i x0o x0n x1_0 sg :=
 (fix_raw (C := cfg) (f := F_slices_IndexFunc__api_Bind_api_Bind) (s := sig_slices_IndexFunc__api_Bind_api_Bind) (fn := Tryz.f133) (c := code_slices_IndexFunc__api_Bind_api_Bind) (by kernel_rfl) Tryz.func133 (by kernel_rfl)).trans (by kernel_rfl)
theorem call_slices_IndexFunc__api_Bind_api_Bind (x0i x0o x0n x1_0 : Nat) (sg : List SObj) {q : List DV × List SObj} (h : P_slices_IndexFunc__api_Bind_api_Bind (run cfg) x0i x0o x0n x1_0 sg = some q) : (run cfg).r F_slices_IndexFunc__api_Bind_api_Bind [(.undef, (.arr x0i 4 x0o x0n)), (.undef, (.fn 117 [(x1_0, 0)]))] sg = some q := (fix_slices_IndexFunc__api_Bind_api_Bind x0i x0o x0n x1_0 sg).trans h
noncomputable def P_slices_Index__int_int (R : Orc) (x0 x1 : DV) : Option DV := eP Tryz.f134 fl_slices_Index__int_int R [] (initSt Tryz.f134 [(x0, .val), (x1, .val)] [])
noncomputable def P_slices_Index__int_int_2h (R : Orc) (t0 t1 t7 t8 : DV) : Option DV := hP Tryz.f134 fl_slices_Index__int_int R [true, false, true, false] (mst 19 [(0, t0), (1, t1), (7, t7), (8, t8)] [] [] [])
theorem eq_slices_Index__int_int (R : Orc) (x0 x1 : DV) : P_slices_Index__int_int R x0 x1 =
 (ob (dLen x0) fun d1 => P_slices_Index__int_int_2h R x0 x1 d1 (.int .i64 0)) := evP_of [] (by kernel_rfl)
theorem eq_slices_Index__int_int_2h (R : Orc) (t0 t1 t7 t8 : DV) : P_slices_Index__int_int_2h R t0 t1 t7 t8 =
 (ob (dBin .lss t8 t7) fun d1 => oif d1 (ob (dIdx 1 t0 t8) fun d2 => og (isLeaf d2) <| ob (dBin .eql t1 d2) fun d3 => oif d3 (some t8) (ob (dBin .add t8 (.int .i64 1)) fun d4 => P_slices_Index__int_int_2h R t0 t1 t7 d4)) (some (.int .i64 (-1)))) := headP_of [] (by kernel_rfl)
theorem call_slices_Index__int_int (x0 x1 : DV) {d : DV} (h : P_slices_Index__int_int (run cfg) x0 x1 = some d) : (run cfg).p F_slices_Index__int_int [x0, x1] = some d := callE Tryz.func134 (by kernel_rfl) (by kernel_rfl) (by kernel_rfl) h
noncomputable def P_r05_SamePat (R : Orc) (x0 x1 : DV) : Option DV := eP Tryz.f148 fl_r05_SamePat R [] (initSt Tryz.f148 [(x0, .val), (x1, .val)] [])
noncomputable def P_r05_SamePat_4h (R : Orc) (t5 b2 b3 : DV) : Option DV := hP Tryz.f148 fl_r05_SamePat R [true, true, false, true, false] (mst 60 [(5, t5)] [(2, (.loc 2 0)), (3, (.loc 3 0))] [(2, some (bxs b2 0 7)), (3, some (bxs b3 0 7))] [])
set_option maxRecDepth 100000 in
theorem eq_r05_SamePat (R : Orc) (x0 x1 : DV) : P_r05_SamePat R x0 x1 =
 (og (isAggN 7 x0) <| og (isAggN 7 x1) <| ob (dBin .neq (proj 0 x0) (proj 0 x1)) fun d1 => ogd d1 (some (.bool false)) (ob (dBin .neq (proj 3 x0) (proj 3 x1)) fun d2 => ogd d2 (some (.bool false)) (ob (dBin .neq (proj 4 x0) (proj 4 x1)) fun d3 => ogd d3 (some (.bool false)) (ob (dBin .neq (proj 5 x0) (proj 5 x1)) fun d4 => ogd d4 (some (.bool false)) (ob (dLen (proj 6 x0)) fun d5 => ob (dLen (proj 6 x1)) fun d6 => ob (dBin .neq d5 d6) fun d7 => oif d7 (some (.bool false)) (P_r05_SamePat_4h R (.int .i64 0) x0 x1)) none) none) none) none) := evP_of [] (by kernel_rfl)
theorem eq_r05_SamePat_4h (R : Orc) (t5 b2 b3 : DV) : P_r05_SamePat_4h R t5 b2 b3 =
 (ob (dLen (proj 6 b2)) fun d1 => ob (dBin .lss t5 d1) fun d2 => oif d2 (ob (dIdx 7 (proj 6 b2) t5) fun d3 => ob (dIdx 7 (proj 6 b3) t5) fun d4 => ob (R.p F_r05_SamePat [(ag7 d3), (ag7 d4)]) fun d5 => ob (dUn .not d5) fun d6 => oif d6 (some (.bool false)) (ob (dBin .add t5 (.int .i64 1)) fun d7 => P_r05_SamePat_4h R d7 b2 b3)) (some (.bool true))) := headP_of [] (by kernel_rfl)
theorem call_r05_SamePat (x0 x1 : DV) {d : DV} (h : P_r05_SamePat (run cfg) x0 x1 = some d) : (run cfg).p F_r05_SamePat [x0, x1] = some d := callE Tryz.func148 (by kernel_rfl) (by kernel_rfl) (by kernel_rfl) h
noncomputable def P_tree_onePat (R : Orc) (x0 : DV) : Option DV := eP Tryz.f150 fl_tree_onePat R [] (initSt Tryz.f150 [(x0, .val)] [])
noncomputable def P_tree_onePat_24 (R : Orc) (t4 b1 b3_0 b3_1 b3_2 b3_3 b3_4 b3_5 b3_6 : DV) : Option DV := eP Tryz.f150 fl_tree_onePat R [true, true, true] (mst 83 [(4, t4)] [(1, (.loc 1 0)), (3, (.loc 3 0))] [(1, some (bxs b1 0 7)), (3, some [(b3_0, .val), (b3_1, .val), (b3_2, .val), (b3_3, .val), (b3_4, .val), (b3_5, .val), (b3_6, .val)])] [])
set_option maxRecDepth 100000 in
theorem eq_tree_onePat (R : Orc) (x0 : DV) : P_tree_onePat R x0 =
 (og (isAggN 7 x0) <| og (isCell (proj 0 x0)) <| og (isCell (proj 6 x0)) <| ob (dBin .eql (proj 0 x0) (.int .i64 1)) fun d1 => oif d1 (P_tree_onePat_24 R (.int .i64 0) x0 (proj 0 x0) (proj 1 x0) (proj 2 x0) (.str ⟨#[]⟩) (.int .i64 0) (.str ⟨#[]⟩) (proj 6 x0)) (ob (dBin .eql (proj 0 x0) (.int .i64 6)) fun d2 => oif d2 (P_tree_onePat_24 R (.int .i64 0) x0 (proj 0 x0) (proj 1 x0) (proj 2 x0) (.str ⟨#[]⟩) (.int .i64 0) (.str ⟨#[]⟩) (proj 6 x0)) (ob (dBin .eql (proj 0 x0) (.int .i64 8)) fun d3 => oif d3 (P_tree_onePat_24 R (.int .i64 0) x0 (proj 0 x0) (proj 1 x0) (proj 2 x0) (.str ⟨#[]⟩) (.int .i64 0) (.str ⟨#[]⟩) (proj 6 x0)) (ob (dBin .eql (proj 0 x0) (.int .i64 2)) fun d4 => oif d4 (og (isCell (proj 3 x0)) <| ob (R.p F_word_Name [(proj 3 x0)]) fun d5 => ob (dUn .not d5) fun d6 => oif d6 (some (.bool false)) (P_tree_onePat_24 R (.int .i64 0) x0 (proj 0 x0) (proj 1 x0) (proj 2 x0) (proj 3 x0) (.int .i64 0) (.str ⟨#[]⟩) (proj 6 x0))) (ob (dBin .eql (proj 0 x0) (.int .i64 3)) fun d7 => oif d7 (og (isCell (proj 4 x0)) <| P_tree_onePat_24 R (.int .i64 0) x0 (proj 0 x0) (proj 1 x0) (proj 2 x0) (.str ⟨#[]⟩) (proj 4 x0) (.str ⟨#[]⟩) (proj 6 x0)) (ob (dBin .eql (proj 0 x0) (.int .i64 4)) fun d8 =>
 oif d8 (og (isCell (proj 4 x0)) <| ob (dBin .neq (proj 4 x0) (.int .i64 0)) fun d9 => ogd d9 (ob (dBin .neq (proj 4 x0) (.int .i64 1)) fun d10 => oif d10 (some (.bool false)) (P_tree_onePat_24 R (.int .i64 0) x0 (proj 0 x0) (proj 1 x0) (proj 2 x0) (.str ⟨#[]⟩) (proj 4 x0) (.str ⟨#[]⟩) (proj 6 x0))) (P_tree_onePat_24 R (.int .i64 0) x0 (proj 0 x0) (proj 1 x0) (proj 2 x0) (.str ⟨#[]⟩) (proj 4 x0) (.str ⟨#[]⟩) (proj 6 x0)) none) (ob (dBin .eql (proj 0 x0) (.int .i64 5)) fun d11 => oif d11 (og (isCell (proj 5 x0)) <| ob (dLenS (proj 5 x0)) fun d12 => ob (dBin .gtr d12 (.int .i64 200)) fun d13 => oif d13 (some (.bool false)) (P_tree_onePat_24 R (.int .i64 0) x0 (proj 0 x0) (proj 1 x0) (proj 2 x0) (.str ⟨#[]⟩) (.int .i64 0) (proj 5 x0) (proj 6 x0))) (ob (dBin .eql (proj 0 x0) (.int .i64 7)) fun d14 => oif d14 (P_tree_onePat_24 R (.int .i64 2) x0 (proj 0 x0) (proj 1 x0) (proj 2 x0) (.str ⟨#[]⟩) (.int .i64 0) (.str ⟨#[]⟩) (proj 6 x0)) (ob (dBin .eql (proj 0 x0) (.int .i64 9)) fun d15 => oif d15 (P_tree_onePat_24 R (.int .i64 2) x0 (proj 0 x0) (proj 1 x0) (proj 2 x0) (.str ⟨#[]⟩) (.int .i64 0) (.str ⟨#[]⟩) (proj 6 x0)) (some (.bool false))))))))))) := evP_of [24] (by kernel_rfl)
set_option maxRecDepth 100000 in
theorem eq_tree_onePat_24 (R : Orc) (t4 b1 b3_0 b3_1 b3_2 b3_3 b3_4 b3_5 b3_6 : DV) : P_tree_onePat_24 R t4 b1 b3_0 b3_1 b3_2 b3_3 b3_4 b3_5 b3_6 =
 (ob (dLen (proj 6 b1)) fun d1 => ob (dBin .eql d1 t4) fun d2 => ogd d2 (ob (dBin .eql b3_3 (proj 3 b1)) fun d3 => ogd d3 (ob (dBin .eql b3_4 (proj 4 b1)) fun d4 => ogd d4 (ob (dBin .eql b3_5 (proj 5 b1)) fun d5 => some d5) (some (.bool false)) none) (some (.bool false)) none) (some (.bool false)) none) := evP_of [24] (by kernel_rfl)
theorem call_tree_onePat (x0 : DV) {d : DV} (h : P_tree_onePat (run cfg) x0 = some d) : (run cfg).p F_tree_onePat [x0] = some d := callE Tryz.func150 (by kernel_rfl) (by kernel_rfl) (by kernel_rfl) h
noncomputable def P_pats_leaf (R : Orc) (x0 : DV) : Option DV := eP Tryz.f151 fl_pats_leaf R [] (initSt Tryz.f151 [(x0, .val)] [])
theorem eq_pats_leaf (R : Orc) (x0 : DV) : P_pats_leaf R x0 =
 (ob (dBin .eql x0 (.int .i64 3)) fun d1 => oif d1 (some (.int .i64 1)) (ob (dBin .eql x0 (.int .i64 4)) fun d2 => oif d2 (some (.int .i64 2)) (ob (dBin .eql x0 (.int .i64 5)) fun d3 => oif d3 (some (.int .i64 3)) (ob (dBin .eql x0 (.int .i64 6)) fun d4 => oif d4 (some (.int .i64 4)) (ob (dBin .eql x0 (.int .i64 8)) fun d5 => oif d5 (some (.int .i64 8)) (some (.int .i64 0))))))) := evP_of [] (by kernel_rfl)
theorem call_pats_leaf (x0 : DV) {d : DV} (h : P_pats_leaf (run cfg) x0 = some d) : (run cfg).p F_pats_leaf [x0] = some d := callE Tryz.func151 (by kernel_rfl) (by kernel_rfl) (by kernel_rfl) h
noncomputable def P_typ_Closed (R : Orc) (x0 : DV) : Option DV := eP Tryz.f152 fl_typ_Closed R [] (initSt Tryz.f152 [(x0, .val)] [])
theorem eq_typ_Closed (R : Orc) (x0 : DV) : P_typ_Closed R x0 =
 (og (isAggN 3 x0) <| ob (R.p F_typ_without [(ag3 x0), (.int .i64 6)]) fun d1 => some d1) := evP_of [] (by kernel_rfl)
theorem call_typ_Closed (x0 : DV) {d : DV} (h : P_typ_Closed (run cfg) x0 = some d) : (run cfg).p F_typ_Closed [x0] = some d := callE Tryz.func152 (by kernel_rfl) (by kernel_rfl) (by kernel_rfl) h
noncomputable def P_typ_without (R : Orc) (x0 x1 : DV) : Option DV := eP Tryz.f161 fl_typ_without R [] (initSt Tryz.f161 [(x0, .val), (x1, .val)] [])
noncomputable def P_typ_without_4h (R : Orc) (t1 t12 t13 t14 : DV) : Option DV := hP Tryz.f161 fl_typ_without R [true, true, false, true, false] (mst 23 [(1, t1), (12, t12), (13, t13), (14, t14)] [] [] [])
theorem eq_typ_without (R : Orc) (x0 x1 : DV) : P_typ_without R x0 x1 =
 (og (isAggN 3 x0) <| ob (dBin .eql (proj 0 x0) x1) fun d1 => oif d1 (some (.bool false)) (ob (dLen (proj 2 x0)) fun d2 => P_typ_without_4h R x1 (proj 2 x0) d2 (.int .i64 0))) := evP_of [] (by kernel_rfl)
theorem eq_typ_without_4h (R : Orc) (t1 t12 t13 t14 : DV) : P_typ_without_4h R t1 t12 t13 t14 =
 (ob (dBin .lss t14 t13) fun d1 => oif d1 (ob (dIdx 3 t12 t14) fun d2 => ob (R.p F_typ_without [(ag3 d2), t1]) fun d3 => ob (dUn .not d3) fun d4 => oif d4 (some (.bool false)) (ob (dBin .add t14 (.int .i64 1)) fun d5 => P_typ_without_4h R t1 t12 t13 d5)) (some (.bool true))) := headP_of [] (by kernel_rfl)
theorem call_typ_without (x0 x1 : DV) {d : DV} (h : P_typ_without (run cfg) x0 x1 = some d) : (run cfg).p F_typ_without [x0, x1] = some d := callE Tryz.func161 (by kernel_rfl) (by kernel_rfl) (by kernel_rfl) h
end Go.Su

/-
 All equations.
-/
namespace Go.Su
end Go.Su

/-
 The functions' specs that this claim needs.
-/
namespace Go.Su
set_option linter.unusedVariables false
set_option linter.unusedSimpArgs false
theorem big {n : Nat} (h : n ≤ lim) : n < 4294967297 := by unfold lim at h; omega
@[simp] theorem dEqA_two (a b c d : Int) (k : IntKind) : dEqA [.int, .int] (.agg [.int k a, .int k b]) (.agg [.int k c, .int k d]) = some (decide (a = c) && decide (b = d)) := by
  simp only [dEqA, dEqLeaves, dEqK, if_true, ob_some']
  by_cases h : a = c <;> by_cases h' : b = d <;> simp [h, h']
theorem sp_slices_Index (l : List Int) (hl : l.length ≤ lim) (n : Int) : ∃ k : Int, (run cfg).p F_slices_Index__int_int [encInts l, .int .i64 n] = some (.int .i64 k) ∧ (0 ≤ k ↔ n ∈ l) := by
 have hb := big hl
 have loop : ∀ (m i : Nat), i + m = l.length → ∃ k : Int, P_slices_Index__int_int_2h (run cfg) (encInts l) (.int .i64 n) (.int .i64 l.length) (.int .i64 i) = some (.int .i64 k) ∧ (0 ≤ k ↔ n ∈ l.drop i) := by
  intro m
  induction m with
  | zero =>
    intro i hi
    have : ¬ i < l.length := by omega
    rw [eq_slices_Index__int_int_2h]
    exact ⟨-1, by simp [this], by simp [List.drop_of_length_le (show l.length ≤ i by omega)]⟩
  | succ m ihm =>
    intro i hi
    have h : i < l.length := by omega
    rw [eq_slices_Index__int_int_2h, List.drop_eq_getElem_cons h]
    by_cases e : n = l[i]
    ·exact ⟨i, by simp [h, dIdx_ints h, e], ⟨fun _ => by rw [e]; exact List.mem_cons_self .., fun _ => by omega⟩⟩
    ·obtain ⟨k, h1, h2⟩ := ihm (i + 1) (by omega)
     push_cast at h1
     refine ⟨k, by simp [h, dIdx_ints h, e, dAdd1 (show i < 9223372036854775807 by omega), h1], ?_⟩
     rw [h2, List.mem_cons]
     simp [e]
 obtain ⟨k, h1, h2⟩ := loop l.length 0 (by omega)
 refine ⟨k, call_slices_Index__int_int _ _ ?_, by simpa using h2⟩
 rw [eq_slices_Index__int_int]
 simpa using h1
theorem sp_slices_Contains (l : List Int) (hl : l.length ≤ lim) (n : Int) : (run cfg).p F_slices_Contains__int_int [encInts l, .int .i64 n] = some (.bool (decide (n ∈ l))) := by
 refine call_slices_Contains__int_int _ _ ?_
 rw [eq_slices_Contains__int_int]
 obtain ⟨k, h1, h2⟩ := sp_slices_Index l hl n
 simp [h1, h2]
@[simp] theorem encBnd0 (e : Int × Ty) : proj 0 (encBnd e) = .int .i64 e.1 := rfl
@[simp] theorem encBnd1 (e : Int × Ty) : proj 1 (encBnd e) = .int .i64 e.2.kind := rfl
@[simp] theorem encBnd2 (e : Int × Ty) : proj 2 (encBnd e) = .int .i64 e.2.n := rfl
@[simp] theorem encBnd3 (e : Int × Ty) : proj 3 (encBnd e) = .list 3 (e.2.kids.map Ty.enc) := rfl
@[simp] theorem isAggN_Bnd (e : Int × Ty) : isAggN 4 (encBnd e) = true := rfl
theorem Nm.agg (n : ByteArray) (t : Ty) (vs : List Int) : DV.agg [.str n, .int .i64 t.kind, .int .i64 t.n, .list 3 (t.kids.map Ty.enc), encInts vs] = Nm.enc ⟨n, t, vs⟩ := rfl
@[simp] theorem isAggN_R3 (r : R3) : isAggN 15 r.enc = true := rfl
end Go.Su

/-
 What the program's functions on terms give: types put for variables.
-/
namespace Go.Su
set_option linter.unusedVariables false
set_option linter.unusedSimpArgs false
theorem encBnd_mk (b : Int × Ty) : DV.agg [proj 0 (encBnd b), proj 1 (encBnd b), proj 2 (encBnd b), proj 3 (encBnd b)] = encBnd b := rfl
theorem encBnd_p0 (b : Int × Ty) : proj 0 (encBnd b) = .int .i64 b.1 := rfl
def outSg (x : List (DV × Meta)) (l : Bds) : List SObj := [.box x, .arr 4 (l.map encBnd)]
theorem sp_out1 (x : List (DV × Meta)) (vs : List Int) (hx : cellDat x 10 = some (encInts vs)) (hv : vs.length ≤ lim) (b : Int × Ty) (cur : Bds) :
 (run cfg).r F_term_outside_1 [(encBnd b, .val), (.undef, .ptr 0 0)] (outSg x cur) = some ([.bool (decide (b.1 ∈ vs))], outSg x cur) := by
 refine call_term_outside_1 _ _ _ ?_
 rw [eq_term_outside_1]
 have e0 : sgBox (outSg x cur) 0 = some x := rfl
 have e1 : isAggN 4 (encBnd b) = true := rfl
 simp only [e0, e1, og_true', ob_some', hx, encBnd_p0, sp_slices_Contains vs hv]
theorem arr_nat {j n : Nat} (h : j < n) : arrIdx 0 n (.int .i64 (j : Int)) = some j := by
 show (if (0 : Int) ≤ (j : Int) ∧ (j : Int) < (n : Int) then some (0 + (j : Int).toNat) else none) = some j
 rw [if_pos ⟨by omega, by omega⟩]
 simp
theorem sp_indexFunc (x : List (DV × Meta)) (vs : List Int) (hx : cellDat x 10 = some (encInts vs)) (hv : vs.length ≤ lim) (l : Bds) (hl : l.length ≤ lim) :
 ∃ j : Nat, (∀ i (h : i < l.length), i < j → l[i].1 ∉ vs) ∧ ((j = l.length ∧ (run cfg).r F_slices_IndexFunc__api_Bind_api_Bind [(.undef, .arr 1 4 0 l.length), (.undef, .fn F_term_outside_1 [(0, 0)])] (outSg x l) = some ([.int .i64 (-1)], outSg x l)) ∨
   (j < l.length ∧ (∀ h : j < l.length, l[j].1 ∈ vs) ∧ (run cfg).r F_slices_IndexFunc__api_Bind_api_Bind [(.undef, .arr 1 4 0 l.length), (.undef, .fn F_term_outside_1 [(0, 0)])] (outSg x l) = some ([.int .i64 (j : Int)], outSg x l))) := by
 have hb := big hl
 have loop : ∀ (n i : Nat), i + n = l.length → (∀ a (h : a < l.length), a < i → l[a].1 ∉ vs) → ∃ j : Nat, (∀ a (h : a < l.length), a < j → l[a].1 ∉ vs) ∧
  ((j = l.length ∧ P_slices_IndexFunc__api_Bind_api_Bind_2h (run cfg) 1 0 l.length 0 (.int .i64 (l.length : Int)) (.int .i64 (i : Int)) (outSg x l) = some ([.int .i64 (-1)], outSg x l)) ∨
  (j < l.length ∧ (∀ h : j < l.length, l[j].1 ∈ vs) ∧ P_slices_IndexFunc__api_Bind_api_Bind_2h (run cfg) 1 0 l.length 0 (.int .i64 (l.length : Int)) (.int .i64 (i : Int)) (outSg x l) = some ([.int .i64 (j : Int)], outSg x l))) := by
  intro n
  induction n with
  | zero =>
    intro i hi ha
    have e : i = l.length := by omega
    subst e
    refine ⟨l.length, ha, .inl ⟨rfl, ?_⟩⟩
    rw [eq_slices_IndexFunc__api_Bind_api_Bind_2h]
    simp only [dBin_lss, Int.lt_irrefl, decide_false, ob_some', oif_bool, Bool.false_eq_true, if_false]
  | succ n ih =>
    intro i hi ha
    have h : i < l.length := by omega
    have s1 : sgArr (outSg x l) 1 = some (4, l.map encBnd) := rfl
    have g1 : (l.map encBnd)[i]? = some (encBnd l[i]) := by rw [List.getElem?_map, List.getElem?_eq_getElem h]; rfl
    have e1 : dBin .add (.int .i64 (i : Int)) (.int .i64 1) = some (.int .i64 ((i + 1 : Nat) : Int)) := dAdd1 (show i < 9223372036854775807 by omega)
    have step : ∀ Z, P_slices_IndexFunc__api_Bind_api_Bind_2h (run cfg) 1 0 l.length 0 (.int .i64 (l.length : Int)) (.int .i64 (i : Int)) (outSg x l) = Z ↔ (if l[i].1 ∈ vs then some ([.int .i64 (i : Int)], outSg x l) else P_slices_IndexFunc__api_Bind_api_Bind_2h (run cfg) 1 0 l.length 0 (.int .i64 (l.length : Int)) (.int .i64 ((i + 1 : Nat) : Int)) (outSg x l)) = Z := by
     intro Z
     rw [eq_slices_IndexFunc__api_Bind_api_Bind_2h (run cfg) 1 0 l.length 0 (.int .i64 (l.length : Int)) (.int .i64 (i : Int))]
     simp only [dBin_lss, Int.ofNat_lt, h, decide_true, ob_some', oif_bool, if_true, arr_nat h, s1, g1, BEq.rfl, og_true', encBnd_mk, sp_out1 x vs hx hv, List.getD_cons_zero, e1, decide_eq_true_eq]
    by_cases hm : l[i].1 ∈ vs
    ·refine ⟨i, ha, .inr ⟨h, fun _ => hm, ?_⟩⟩
     rw [step, if_pos hm]
    ·obtain ⟨j, h1, h2⟩ := ih (i + 1) (by omega) fun a h ha' => by
      by_cases e : a = i
      ·subst e; exact hm
      ·exact ha a h (by omega)
     refine ⟨j, h1, ?_⟩
     simp only [step, if_neg hm]
     exact h2
 obtain ⟨j, h1, h2⟩ := loop l.length 0 (by omega) (fun a h ha => by omega)
 refine ⟨j, h1, ?_⟩
 have c : ∀ {q : List DV × List SObj}, P_slices_IndexFunc__api_Bind_api_Bind_2h (run cfg) 1 0 l.length 0 (.int .i64 (l.length : Int)) (.int .i64 0) (outSg x l) = some q → (run cfg).r F_slices_IndexFunc__api_Bind_api_Bind [(.undef, .arr 1 4 0 l.length), (.undef, .fn F_term_outside_1 [(0, 0)])] (outSg x l) = some q := fun h => by
  refine call_slices_IndexFunc__api_Bind_api_Bind 1 0 l.length 0 _ ?_
  rw [eq_slices_IndexFunc__api_Bind_api_Bind]
  exact h
 rcases h2 with ⟨a, b⟩ | ⟨a, b, d⟩
 ·exact .inl ⟨a, c b⟩
 ·exact .inr ⟨a, b, c d⟩
theorem filter_all {l : Bds} {vs : List Int} (h : ∀ i (h : i < l.length), l[i].1 ∉ vs) : bOut l vs = l := by
 unfold bOut
 rw [List.filter_eq_self]
 intro b hb
 obtain ⟨i, hi, rfl⟩ := List.mem_iff_getElem.1 hb
 simp [h i hi]
theorem sp_deleteFunc (x : List (DV × Meta)) (vs : List Int) (hx : cellDat x 10 = some (encInts vs)) (hv : vs.length ≤ lim) (l : Bds) (hl : l.length ≤ lim) :
 ∃ sg : List SObj, (run cfg).r F_slices_DeleteFunc__api_Bind_api_Bind [(.undef, .arr 1 4 0 l.length), (.undef, .fn F_term_outside_1 [(0, 0)])] (outSg x l) = some ([encBnds (bOut l vs)], sg) := by
 have hb := big hl
 obtain ⟨j0, hj1, hj2⟩ := sp_indexFunc x vs hx hv l hl
 have sealX : ∀ (cur : Bds) (n : Nat), n ≤ cur.length → sealCell (outSg x cur) (.undef, .arr 1 4 0 n) = some (encBnds (cur.take n)) := by
  intro cur n hn
  have : sgArr (outSg x cur) 1 = some (4, cur.map encBnd) := rfl
  simp only [sealCell, this, ob_some', BEq.rfl, og_true', Nat.zero_add, List.length_map, hn, if_true, List.drop_zero, encBnds, List.map_take]
 have kept : ∀ j (h : j < l.length), bOut (l.take (j + 1)) vs = if l[j].1 ∈ vs then bOut (l.take j) vs else bOut (l.take j) vs ++ [l[j]] := by
  intro j h
  unfold bOut
  rw [List.take_succ_eq_append_getElem h, List.filter_append]
  by_cases hm : l[j].1 ∈ vs
  ·simp [hm]
  ·simp [hm]
 rcases hj2 with ⟨hj, hI⟩ | ⟨hj, hm, hI⟩
 ·-- none goes
  refine ⟨(outSg x l).set 1 (.arr 1 []), call_slices_DeleteFunc__api_Bind_api_Bind 1 0 l.length 0 _ ?_⟩
  rw [eq_slices_DeleteFunc__api_Bind_api_Bind]
  rw [filter_all fun i h => hj1 i h (by omega)]
  have e : dBin .eql (.int .i64 (-1)) (.int .i64 (-1)) = some (.bool true) := rfl
  have sl := sealX l l.length (Nat.le_refl _)
  rw [List.take_length] at sl
  simp only [hI, ob_some', List.getD_cons_zero, e, oif_bool, if_true, sl, seqO]
 ·have loop : ∀ (n j i : Nat) (cur : Bds), j + n = l.length → i < j → cur.length = l.length → cur.take i = bOut (l.take j) vs → cur.drop j = l.drop j →
   ∃ sg, P_slices_DeleteFunc__api_Bind_api_Bind_5h (run cfg) 1 0 l.length 0 (.int .i64 (i : Int)) (.int .i64 (j : Int)) (outSg x cur) = some ([encBnds (bOut l vs)], sg) := by
   intro n
   induction n with
   | zero =>
     intro j i cur hn hij hc ht hd
     have e : j = l.length := by omega
     subst e
     have b1 : bnd 0 (some (.int .i64 (i : Int))) = some i := by
      show (if (0 : Int) ≤ (i : Int) then some (i : Int).toNat else none) = some i
      rw [if_pos (by omega)]; simp
     have b2 : bnd l.length (some (.int .i64 (i : Int))) = some i := by
      show (if (0 : Int) ≤ (i : Int) then some (i : Int).toNat else none) = some i
      rw [if_pos (by omega)]; simp
     have s1 : sgArr (outSg x cur) 1 = some (4, cur.map encBnd) := rfl
     have s2 : ∀ n : Nat, (outSg x cur).set 1 (.arr 4 ((cur.map encBnd).take n)) = outSg x (cur.take n) := fun n => by rw [← List.map_take]; rfl
     have c1 : i + (l.length - i) ≤ (cur.map encBnd).length := by rw [List.length_map]; omega
     refine ⟨[.box x, .arr 1 []], ?_⟩
     rw [eq_slices_DeleteFunc__api_Bind_api_Bind_5h]
     simp only [dBin_lss, Int.lt_irrefl, decide_false, ob_some', oif_bool, Bool.false_eq_true, if_false, b1, b2, show i ≤ l.length ∧ l.length ≤ l.length from ⟨by omega, Nat.le_refl _⟩, and_self, if_true, s1, BEq.rfl, Bool.true_and, Bool.and_true, c1, decide_true, og_true', Nat.zero_le, show i ≤ l.length by omega, s2, Nat.add_zero, Nat.sub_zero, Nat.zero_add]
     have sl := sealX (cur.take i) i (by rw [List.length_take]; omega)
     rw [List.take_take, Nat.min_self, ht, List.take_length] at sl
     rw [ht]
     simp only [List.take_length, sl, seqO, ob_some']
     rfl
   | succ n ih =>
     intro j i cur hn hij hc ht hd
     have h : j < l.length := by omega
     have hcj : j < cur.length := by omega
     have e : cur[j] = l[j] := by
      have h1 : (cur.drop j)[0]? = (l.drop j)[0]? := by rw [hd]
      rw [List.getElem?_drop, List.getElem?_drop, Nat.add_zero, List.getElem?_eq_getElem hcj, List.getElem?_eq_getElem h, Option.some.injEq] at h1
      exact h1
     have s1 : sgArr (outSg x cur) 1 = some (4, cur.map encBnd) := rfl
     have g1 : (cur.map encBnd)[j]? = some (encBnd l[j]) := by rw [List.getElem?_map, List.getElem?_eq_getElem hcj, e]; rfl
     have hci : i < cur.length := by omega
     have g2 : (cur.map encBnd)[i]? = some (encBnd cur[i]) := by rw [List.getElem?_map, List.getElem?_eq_getElem hci]; rfl
     have a2 : arrIdx 0 l.length (.int .i64 (i : Int)) = some i := arr_nat (by omega)
     have e1 : dBin .add (.int .i64 (j : Int)) (.int .i64 1) = some (.int .i64 ((j + 1 : Nat) : Int)) := dAdd1 (show j < 9223372036854775807 by omega)
     have e2 : dBin .add (.int .i64 (i : Int)) (.int .i64 1) = some (.int .i64 ((i + 1 : Nat) : Int)) := dAdd1 (show i < 9223372036854775807 by omega)
     have s2 : ∀ y : Int × Ty, (outSg x cur).set 1 (.arr 4 ((cur.map encBnd).set i (encBnd y))) = outSg x (cur.set i y) := fun y => by rw [← List.map_set]; rfl
     rw [eq_slices_DeleteFunc__api_Bind_api_Bind_5h]
     simp only [dBin_lss, Int.ofNat_lt, h, decide_true, ob_some', oif_bool, if_true, arr_nat h, s1, g1, BEq.rfl, og_true', encBnd_mk, sp_out1 x vs hx hv, List.getD_cons_zero, dUn_not]
     have hdrop : ∀ (c : Bds), c.drop j = l.drop j → c.drop (j + 1) = l.drop (j + 1) := fun c h => by rw [← List.drop_drop, ← List.drop_drop (l := l), h]
     by_cases hm2 : l[j].1 ∈ vs
     ·simp only [hm2, decide_true, Bool.not_true, Bool.false_eq_true, if_false, e1]
      refine ih (j + 1) i cur (by omega) (by omega) hc ?_ (hdrop cur hd)
      rw [kept j h, if_pos hm2, ht]
     ·simp only [hm2, decide_false, Bool.not_false, if_true, a2, ob_some', s1, g2, BEq.rfl, og_true', e1, e2, s2]
      refine ih (j + 1) (i + 1) (cur.set i l[j]) (by omega) (by omega) (by simpa using hc) ?_ ?_
      ·rw [kept j h, if_neg hm2, List.take_succ_eq_append_getElem (by simpa using hci), List.take_set_of_le (Nat.le_refl _), List.getElem_set_self, ht]
      ·rw [List.drop_set, if_pos (by omega)]
       exact hdrop cur hd
  have start : l.take j0 = bOut (l.take (j0 + 1)) vs := by
   rw [kept j0 hj, if_pos (hm hj)]
   refine (filter_all fun i h => ?_).symm
   rw [List.length_take] at h
   rw [List.getElem_take]
   exact hj1 i (by omega) (by omega)
  obtain ⟨sg, hs⟩ := loop (l.length - (j0 + 1)) (j0 + 1) j0 l (by omega) (by omega) rfl start rfl
  refine ⟨sg, call_slices_DeleteFunc__api_Bind_api_Bind 1 0 l.length 0 _ ?_⟩
  rw [eq_slices_DeleteFunc__api_Bind_api_Bind]
  have e : dBin .eql (.int .i64 (j0 : Int)) (.int .i64 (-1)) = some (.bool false) := by
   rw [dBin_eql, decide_eq_false (by omega)]
  have e1 : dBin .add (.int .i64 (j0 : Int)) (.int .i64 1) = some (.int .i64 ((j0 + 1 : Nat) : Int)) := dAdd1 (show j0 < 9223372036854775807 by omega)
  simp only [hI, ob_some', List.getD_cons_zero, e, oif_bool, Bool.false_eq_true, if_false, e1]
  exact hs
theorem sp_term_outside (d : DV) (vs : List Int) (hd : isAggN 20 d = true) (h10 : proj 10 d = encInts vs) (hv : vs.length ≤ lim) (j : Int) (l : Bds) (hl : l.length ≤ lim) :
 (run cfg).p F_term_outside [d, .int .i64 j, encBnds l] = some (encBnds (if 0 < j then l else bOut l vs)) := by
 refine call_term_outside _ _ _ ?_
 rw [eq_term_outside]
 simp only [hd, og_true', dBin_gtr, ob_some', ogd_bool, decide_eq_true_eq, h10, dLen_ints, dBin_eql, oif_bool]
 by_cases hj : 0 < j
 ·simp only [hj, if_true]
 simp only [hj, if_false]
 by_cases h0 : vs = []
 ·subst h0
  simp [bOut_nil]
 ·have h0' : ¬ ((vs.length : Int) = 0) := by
   have := List.length_pos_iff.2 h0
   omega
  obtain ⟨sg, hs⟩ := sp_deleteFunc [(proj 0 d, .val), (proj 1 d, .val), (proj 2 d, .val), (proj 3 d, .val), (proj 4 d, .val), (proj 5 d, .val), (proj 6 d, .val), (proj 7 d, .val), (proj 8 d, .val), (proj 9 d, .val), (proj 10 d, .val), (proj 11 d, .val), (proj 12 d, .val), (proj 13 d, .val), (proj 14 d, .val), (proj 15 d, .val), (proj 16 d, .val), (proj 17 d, .val), (proj 18 d, .val), (proj 19 d, .val)] vs (by rw [← h10]; rfl) hv l hl
  unfold outSg at hs
  have dl : dList (encBnds l) = some (4, l.map encBnd) := rfl
  simp only [h0', decide_false, Bool.false_eq_true, if_false, dl, ob_some', BEq.rfl, Bool.true_and, List.length_map, hl, decide_true, og_true']
  rw [h10] at hs
  simp only [hs, ob_some', List.getD_cons_zero]
end Go.Su

/-
 The functions' specs that this claim needs.
-/
namespace Go.Su
set_option linter.unusedVariables false
set_option linter.unusedSimpArgs false
theorem sp_typ_arity (k : Int) : (run cfg).p F_typ_arity [.int .i64 k] = some (.int .i64 (arity k)) := by
 refine call_typ_arity _ ?_
 rw [eq_typ_arity]
 simp [arity]
 by_cases h1 : k = 1 <;> by_cases h2 : k = 2 <;> by_cases h3 : k = 3 <;> by_cases h4 : k = 4 <;> by_cases h5 : k = 5 <;> by_cases h6 : k = 6 <;> by_cases h7 : k = 7 <;> by_cases h8 : k = 8 <;> by_cases h9 : k = 9 <;> simp_all
theorem sp_typ_right (t : Ty) : t.thin = true → (run cfg).p F_typ_right [t.enc] = some (.bool t.right) := by
 induction t using Ty.ind with
 | h t ih =>
   intro ht
   have hb := t.thin_len ht
   refine call_typ_right _ ?_
   have loop : P_typ_right_9h (run cfg) (.list 3 (t.kids.map Ty.enc)) (.int .i64 t.kids.length) (.int .i64 0) = _ := loop_all (l := t.kids) (f := Ty.right) (P := fun i => P_typ_right_9h (run cfg) (.list 3 (t.kids.map Ty.enc)) (.int .i64 t.kids.length) (.int .i64 i)) (y := .bool true) (n := .bool false)
    (by rw [eq_typ_right_9h]; simp)
    (fun i h => by
      rw [eq_typ_right_9h]
      simp [h, dIdx_map h, Ty.eta, Ty.ag, ih _ (List.getElem_mem h) (Ty.thin_kid ht (List.getElem_mem h)), dAdd1 (show i < 9223372036854775807 by omega)]
      cases t.kids[i].right <;> rfl)
   rw [eq_typ_right]
   simp only [isAggN_Ty, og_true', Ty.proj0, Ty.proj1, Ty.proj2, sp_typ_arity, ob_some', dLen_list, dBin_neq, dBin_lss, dBin_gtr, dBin_geq, dBin_leq, dBin_eql, ogd_bool, oif_bool, loop, Ty.right_eq t, List.length_map]
   have h0 : t.kind = 6 → arity t.kind = 0 := fun h => by rw [h]; rfl
   have h7 : t.kind = 6 → arity t.kind = t.kids.length → t.kids.all Ty.right = true := fun h h' => by
    have : t.kids = [] := List.eq_nil_of_length_eq_zero (by have := h0 h; omega)
    rw [this]; rfl
   have h8 : (t.kids.length : Int) = arity t.kind ↔ arity t.kind = t.kids.length := eq_comm
   simp only [h8, ite_sb, ite_db]
   refine sb_iff ?_
   by_cases h1 : arity t.kind = t.kids.length
   ·have h2 : ¬ (arity t.kind < 0) := by omega
    by_cases h4 : t.kind = 6
    ·simp [h1, h2, h4, h7 h4 h1]
     omega
    ·by_cases h5 : t.n = 0 <;> simp [h1, h2, h4, h5]
   ·by_cases h2 : arity t.kind < 0 <;> simp [h1, h2]
theorem sp_typ_Check (t : Ty) (ht : t.thin = true) : (run cfg).p F_typ_Check [t.enc] = some (.int .i64 (if t.right = true then 0 else 1)) := by
 refine call_typ_Check _ ?_
 rw [eq_typ_Check]
 simp [Ty.eta, Ty.ag, sp_typ_right t ht]
 cases t.right <;> rfl
def FirstIs (es : List (DV × DV)) (l : List (Int × Ty)) : Prop :=
 ∀ v, match mGet es (.int .i64 v) with
   | none => ∀ e ∈ l, e.1 ≠ v
   | some d => ∃ (i : Nat) (h : i < l.length), d = .int .i64 i ∧ l[i].1 = v ∧ ∀ j (hj : j < i), (l[j]'(by omega)).1 ≠ v
theorem FirstIs.look {es : List (DV × DV)} {l : List (Int × Ty)} (h : FirstIs es l) (v : Int) : (mGet es (.int .i64 v) = none ∧ look l v = none) ∨ ∃ (i : Nat) (hi : i < l.length), mGet es (.int .i64 v) = some (.int .i64 i) ∧ look l v = some l[i].2 := by
 have := h v
 cases hm : mGet es (.int .i64 v) with
 | none =>
   rw [hm] at this
   left
   refine ⟨rfl, ?_⟩
   unfold Su.look
   rw [List.find?_eq_none.2]
   ·rfl
   ·intro e he; simpa using this e he
 | some d =>
   rw [hm] at this
   obtain ⟨i, hi, rfl, h1, h2⟩ := this
   right
   refine ⟨i, hi, rfl, ?_⟩
   unfold Su.look
   have : l.find? (fun e => decide (e.1 = v)) = some l[i] := by
    rw [List.find?_eq_some_iff_getElem]
    refine ⟨by simpa using h1, i, hi, rfl, fun j hj => ?_⟩
    simpa using h2 j hj
   rw [this]
   rfl
theorem sp_scheme_put (l : List (Int × Ty)) (es : List (DV × DV)) (hf : FirstIs es l) (i : Nat) (sg : List SObj) (hm : sgMap sg i = some (false, es)) (t : Ty) : t.right = true →
 (run cfg).r F_scheme_put [(t.enc, .val), (encBnds l, .val), (.undef, .map i)] sg = some ([(t.put l).enc], sg) := by
 induction t using Ty.ind with
 | h t ih =>
   intro ht
   have hb := t.thin_len (Ty.thin_of_right ht)
   refine call_scheme_put _ _ _ _ ?_
   rw [eq_scheme_put, Ty.put_eq]
   by_cases h6 : t.kind = 6
   ·have e6 : DV.agg [.int .i64 6, .int .i64 t.n, .list 3 (t.kids.map Ty.enc)] = t.enc := by rw [← h6]; exact Ty.eta t
    rcases hf.look t.n with ⟨h1, h2⟩ | ⟨j, hj, h1, h2⟩
    ·simp [h6, hm, h1, h2, e6]
    ·have e1 : dIdx 4 (encBnds l) (.int .i64 (j : Int)) = some (encBnd l[j]) := dIdx_map hj
     simp [h6, hm, h1, h2, e1, Ty.eta, Ty.ag]
   ·have loop := loop_fold (l := t.kids) (P := fun j (a : List Ty) => P_scheme_put_10h (run cfg) (encBnds l) i (.list 3 (t.kids.map Ty.enc)) (.int .i64 t.kids.length) (.int .i64 j) (.int .i64 t.kind) (.list 3 (a.map Ty.enc)) sg)
     (g := fun a k => a ++ [k.put l]) (fin := fun a => some ([(Ty.mk t.kind 0 a).enc], sg)) (I := fun j a => a.length = j)
     (fun a _ => by rw [eq_scheme_put_10h]; simp [Ty.enc_eq])
     (fun j h a ha => by
       refine ⟨?_, by simp [ha]⟩
       rw [eq_scheme_put_10h]
       have := dApp_map (e := Ty.enc) (sz := 3) (l := a) (x := t.kids[j].put l) (by unfold lim; omega)
       simp [h, dIdx_map h, Ty.eta, Ty.ag, ih _ (List.getElem_mem h) (Ty.right_kid ht (List.getElem_mem h)), this, dAdd1 (show j < 9223372036854775807 by omega)]) [] rfl
    have e : ∀ (m : List Ty) (a : List Ty), m.foldl (fun a k => a ++ [k.put l]) a = a ++ m.map (Ty.put l) := by
     intro m
     induction m with
     | nil => intro a; simp
     | cons x m ih => intro a; simp [ih]
    rw [e] at loop
    have hn : t.n = 0 := by have := (Ty.right_iff.1 ht).2.2.2.1; omega
    by_cases h0 : t.kids.length = 0
    ·have hk : t.kids = [] := List.eq_nil_of_length_eq_zero h0
     simp only [if_neg h6, hk, List.map_nil, Ty.enc_eq (Ty.mk t.kind t.n [])]
     simp [h6, hk]
     try (rw [Ty.enc_eq t, hk]; rfl)
    ·have h0' : ¬ ((t.kids.length : Int) = 0) := by omega
     simp only [List.map_nil, List.nil_append] at loop
     have h0'' : ¬ t.kids = [] := fun h => h0 (by rw [h]; rfl)
     simp [h6, h0', h0'', hn, loop]
theorem sp_scheme_Subst (t : Ty) (l : List (Int × Ty)) (ht : t.thin = true) (hl : l.length ≤ lim) (hlt : ∀ e ∈ l, e.2.thin = true) :
 (run cfg).p F_scheme_Subst [t.enc, encBnds l] = some (if t.right = true ∧ rightBinds l = true then .tup [(t.put l).enc, .int .i64 0] else .tup [zeroTy.enc, .int .i64 1]) := by
 have hb := big hl
 have z : zeroTy.enc = .agg [.int .i64 0, .int .i64 0, .list 3 []] := by rw [Ty.enc_eq]; rfl
 refine call_scheme_Subst _ _ ?_
 rw [eq_scheme_Subst]
 by_cases hr : t.right = true
 ·have loop : ∀ (m i : Nat) (es : List (DV × DV)), i + m = l.length → FirstIs es (l.take i) → (l.take i).all (fun e => decide (0 ≤ e.1) && decide (e.1 ≤ 1048576) && e.2.right) = true →
   P_scheme_Subst_5h (run cfg) (encBnds l) (encBnds l) (.int .i64 l.length) (.int .i64 i) t.enc [.map false es] = some (if rightBinds l = true then .tup [(t.put l).enc, .int .i64 0] else .tup [zeroTy.enc, .int .i64 1]) := by
   intro m
   induction m with
   | zero =>
     intro i es hi hf ha
     rw [List.take_of_length_le (by omega)] at hf ha
     have : ¬ i < l.length := by omega
     rw [eq_scheme_Subst_5h]
     have hp := sp_scheme_put l es hf 0 [.map false es] rfl t hr
     have ha' : rightBinds l = true := ha
     simp [this, Ty.eta, Ty.ag, hp, ha']
   | succ m ihm =>
     intro i es hi hf ha
     have h : i < l.length := by omega
     have hmem : l[i] ∈ l := List.getElem_mem h
     have ha' : ¬ (0 ≤ l[i].1 ∧ l[i].1 ≤ 1048576 ∧ l[i].2.right = true) → rightBinds l = false := by
      intro hh
      rw [Bool.eq_false_iff]
      intro h'
      exact hh (rightBinds_iff.1 h' _ hmem)
     rw [eq_scheme_Subst_5h]
     have e1 : dIdx 4 (encBnds l) (.int .i64 (i : Int)) = some (encBnd l[i]) := dIdx_map h
     by_cases h1 : l[i].1 < 0
     ·simp [h, e1, h1, ha' (by omega), z]
     by_cases h2 : 1048576 < l[i].1
     ·simp [h, e1, h1, h2, ha' (by omega), z]
     cases h3 : l[i].2.right
     ·simp [h, e1, h1, h2, Ty.eta, Ty.ag, sp_typ_Check _ (hlt _ hmem), h3, ha' (by simp [h3]), z]
     have hm : sgMap [SObj.map false es] 0 = some (false, es) := rfl
     have hall : (l.take (i + 1)).all (fun e => decide (0 ≤ e.1) && decide (e.1 ≤ 1048576) && e.2.right) = true := by
      rw [List.take_succ_eq_append_getElem h, List.all_append, ha]
      have h1' : 0 ≤ l[i].1 := by omega
      have h2' : l[i].1 ≤ 1048576 := by omega
      simp [h1', h2', h3]
     have hlen : (l.take i).length = i := by simp; omega
     cases hg : mGet es (.int .i64 l[i].1) with
     | none =>
       have nx := ihm (i + 1) (mSet es (.int .i64 l[i].1) (.int .i64 i)) (by omega) (by
        intro v
        rw [mGet_setI]
        by_cases e : l[i].1 = v
        ·rw [if_pos e]
         refine ⟨i, by simp; omega, rfl, by simpa using e, fun j hj => ?_⟩
         have := hf l[i].1
         rw [hg] at this
         have := this l[j] (List.mem_take_iff_getElem.2 ⟨j, by omega, rfl⟩)
         simpa [e] using this
        ·rw [if_neg e]
         have := hf v
         cases hv : mGet es (.int .i64 v) with
         | none =>
           rw [hv] at this
           intro x hx
           rw [List.take_succ_eq_append_getElem h, List.mem_append, List.mem_singleton] at hx
           rcases hx with hx | rfl
           ·exact this x hx
           ·exact e
         | some d =>
           rw [hv] at this
           obtain ⟨k, hk, a, b, c⟩ := this
           rw [hlen] at hk
           refine ⟨k, by simp; omega, a, by simpa using b, fun j hj => by simpa using c j hj⟩) hall
       push_cast at nx
       simp [h, e1, h1, h2, Ty.eta, Ty.ag, sp_typ_Check _ (hlt _ hmem), h3, hm, hg, dAdd1 (show i < 9223372036854775807 by omega), nx]
     | some d =>
       have nx := ihm (i + 1) es (by omega) (by
        intro v
        have := hf v
        cases hv : mGet es (.int .i64 v) with
        | none =>
          rw [hv] at this
          intro x hx
          rw [List.take_succ_eq_append_getElem h, List.mem_append, List.mem_singleton] at hx
          rcases hx with hx | rfl
          ·exact this x hx
          ·intro e; rw [e, hv] at hg; cases hg
        | some d =>
          rw [hv] at this
          obtain ⟨k, hk, a, b, c⟩ := this
          rw [hlen] at hk
          refine ⟨k, by simp; omega, a, by simpa using b, fun j hj => by simpa using c j hj⟩) hall
       push_cast at nx
       simp [h, e1, h1, h2, Ty.eta, Ty.ag, sp_typ_Check _ (hlt _ hmem), h3, hm, hg, dAdd1 (show i < 9223372036854775807 by omega), nx]
  have l0 := loop l.length 0 [] (by omega) (fun v => by simp [mGet]) (by simp)
  simp only [Int.natCast_zero, Int.ofNat_zero, Int.cast_ofNat_Int] at l0
  have dl : dLen (encBnds l) = some (.int .i64 l.length) := by simp [encBnds]
  simp [Ty.eta, Ty.ag, sp_typ_Check t ht, hr, dl, l0]
 ·simp [Ty.eta, Ty.ag, sp_typ_Check t ht, hr, z]
theorem e6 : errOk 6 := .inr (.inl rfl)
def Deriv.fit (d : Deriv) : Prop := d.types.length < lim ∧ d.vars.length < lim ∧ d.kids.length < lim ∧ (∀ t ∈ d.types, t.thin = true) ∧ ∀ k : { x // x ∈ d.kids }, Deriv.fit k.1
termination_by SizeOf.sizeOf d
decreasing_by exact Deriv.kid_lt k.2
def Deriv.put (l : List (Int × Ty)) : Deriv → Deriv
 | .mk ts vs ks => .mk (ts.map (Ty.put l)) vs (ks.map (Deriv.put l))
def Ty.plain (K : Int → Bool) : Ty → Ty
 | .mk k n ks => if k = 6 ∧ K n = false then .mk 5 0 [] else .mk k n (ks.map (Ty.plain K))
def Deriv.plain (K : Int → Bool) : Deriv → Deriv
 | .mk ts vs ks => .mk (ts.map (Ty.plain K)) vs (ks.map (Deriv.plain K))
inductive Val.plain : Val → Prop where
 | mk (v : Val) : v.c = noCoer → v.kids.length < lim → (∀ k ∈ v.kids, k.plain) → v.plain
theorem Val.plain.kid {v k : Val} (h : v.plain) (hk : k ∈ v.kids) : k.plain := by cases h with | mk _ _ _ g => exact g k hk
end Go.Su
