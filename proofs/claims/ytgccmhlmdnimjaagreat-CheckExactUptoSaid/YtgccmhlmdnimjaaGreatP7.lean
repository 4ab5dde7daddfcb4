/-
  Equations of the program's functions: by program.
-/
import Derived.Test.YtgccmhlmdnimjaaGreatP5
namespace Go.Su
open Go.Proofs
set_option linter.unusedVariables false

/-! ### l19_CheckExact -/
noncomputable def code_l19_CheckExact : Code := Tryz.f3.body.getD .skip
noncomputable def P_l19_CheckExact (R : Orc) (x0 : DV) : Option DV := evP cfg R fl_l19_CheckExact (retP cfg.P Tryz.f3) [] code_l19_CheckExact (initSt Tryz.f3 [(x0, .val)] [])
set_option maxRecDepth 100000 in
theorem eq_l19_CheckExact (R : Orc) (x0 : DV) : P_l19_CheckExact R x0 =
  (og (isAggN 20 x0) <|
  ob (R.p F_l17_Heavy [(.list 20 [(.agg [(proj 0 x0), (proj 1 x0), (proj 2 x0), (proj 3 x0), (proj 4 x0), (proj 5 x0), (proj 6 x0), (proj 7 x0), (proj 8 x0), (proj 9 x0), (proj 10 x0), (proj 11 x0), (proj 12 x0), (proj 13 x0), (proj 14 x0), (proj 15 x0), (proj 16 x0), (proj 17 x0), (proj 18 x0), (proj 19 x0)])])]) fun d1 =>
  ogd d1
   (some (.bool true))
   (ob (R.p F_r17_TameTerm [(.agg [(proj 0 x0), (proj 1 x0), (proj 2 x0), (proj 3 x0), (proj 4 x0), (proj 5 x0), (proj 6 x0), (proj 7 x0), (proj 8 x0), (proj 9 x0), (proj 10 x0), (proj 11 x0), (proj 12 x0), (proj 13 x0), (proj 14 x0), (proj 15 x0), (proj 16 x0), (proj 17 x0), (proj 18 x0), (proj 19 x0)])]) fun d2 =>
   ob (dUn .not d2) fun d3 =>
   oif d3
    (some (.bool true))
    (ob (R.p F_check_Type [(.agg [(proj 0 x0), (proj 1 x0), (proj 2 x0), (proj 3 x0), (proj 4 x0), (proj 5 x0), (proj 6 x0), (proj 7 x0), (proj 8 x0), (proj 9 x0), (proj 10 x0), (proj 11 x0), (proj 12 x0), (proj 13 x0), (proj 14 x0), (proj 15 x0), (proj 16 x0), (proj 17 x0), (proj 18 x0), (proj 19 x0)])]) fun d4 =>
    ob (dExt 0 d4) fun d5 =>
    ob (dExt 1 d4) fun d6 =>
    og (isAggN 3 d5) <|
    ob (R.p F_r17_Right [(.agg [(proj 0 x0), (proj 1 x0), (proj 2 x0), (proj 3 x0), (proj 4 x0), (proj 5 x0), (proj 6 x0), (proj 7 x0), (proj 8 x0), (proj 9 x0), (proj 10 x0), (proj 11 x0), (proj 12 x0), (proj 13 x0), (proj 14 x0), (proj 15 x0), (proj 16 x0), (proj 17 x0), (proj 18 x0), (proj 19 x0)])]) fun d7 =>
    ob (dUn .not d7) fun d8 =>
    oif d8
     (ob (dBin .eql d6 (.int .i64 1)) fun d9 =>
     ogd d9
      (ob (dBin .eql (proj 0 d5) (.int .i64 0)) fun d10 =>
      ogd d10
       (ob (R.p F_l19_wakes []) fun d11 =>
       some d11)
       (some (.bool false))
       none)
      (some (.bool false))
      none)
     (ob (R.p F_r17_Type [(.agg [(proj 0 x0), (proj 1 x0), (proj 2 x0), (proj 3 x0), (proj 4 x0), (proj 5 x0), (proj 6 x0), (proj 7 x0), (proj 8 x0), (proj 9 x0), (proj 10 x0), (proj 11 x0), (proj 12 x0), (proj 13 x0), (proj 14 x0), (proj 15 x0), (proj 16 x0), (proj 17 x0), (proj 18 x0), (proj 19 x0)])]) fun d12 =>
     ob (dExt 0 d12) fun d13 =>
     ob (dExt 1 d12) fun d14 =>
     og (isAggN 3 d13) <|
     ob (dBin .eql d6 d14) fun d15 =>
     ogd d15
      (ob (R.p F_keep_Same [(.agg [(proj 0 d5), (proj 1 d5), (proj 2 d5)]), (.agg [(proj 0 d13), (proj 1 d13), (proj 2 d13)])]) fun d16 =>
      ogd d16
       (ob (R.p F_l19_wakes []) fun d17 =>
       some d17)
       (some (.bool false))
       none)
      (some (.bool false))
      none)))
   none) := evP_of [] (by kernel_rfl)
theorem call_l19_CheckExact (x0 : DV) {d : DV} (h : P_l19_CheckExact (run cfg) x0 = some d) : (run cfg).p F_l19_CheckExact [x0] = some d :=
  run_pure (fn := Tryz.f3) (c := code_l19_CheckExact) (by kernel_rfl) Tryz.func3 (by kernel_rfl) ((show _ = P_l19_CheckExact (run cfg) x0 by kernel_rfl).trans h)

/-! ### l17_Heavy -/
noncomputable def code_l17_Heavy : Code := Tryz.f9.body.getD .skip
noncomputable def P_l17_Heavy (R : Orc) (x0 : DV) : Option DV := evP cfg R fl_l17_Heavy (retP cfg.P Tryz.f9) [] code_l17_Heavy (initSt Tryz.f9 [(x0, .val)] [])
noncomputable def P_l17_Heavy_3h (R : Orc) (t0 : DV) (t3 : DV) (t4 : DV) : Option DV := headP cfg R fl_l17_Heavy (retP cfg.P Tryz.f9) [true, true, false, true, false] code_l17_Heavy ⟨spread .undef 19 0 [(0, t0), (3, t3), (4, t4)], spread .val 19 0 [], spread none 19 0 [], []⟩
theorem eq_l17_Heavy (R : Orc) (x0 : DV) : P_l17_Heavy R x0 =
  (P_l17_Heavy_3h R x0 (.int .i64 0) (.int .i64 0)) := evP_of [] (by kernel_rfl)
theorem eq_l17_Heavy_3h (R : Orc) (t0 : DV) (t3 : DV) (t4 : DV) : P_l17_Heavy_3h R t0 t3 t4 =
  (ob (dLen t0) fun d1 =>
  ob (dBin .lss t4 d1) fun d2 =>
  oif d2
   (ob (dIdx 20 t0 t4) fun d3 =>
   ob (R.p F_l17_weigh [(.agg [(proj 0 d3), (proj 1 d3), (proj 2 d3), (proj 3 d3), (proj 4 d3), (proj 5 d3), (proj 6 d3), (proj 7 d3), (proj 8 d3), (proj 9 d3), (proj 10 d3), (proj 11 d3), (proj 12 d3), (proj 13 d3), (proj 14 d3), (proj 15 d3), (proj 16 d3), (proj 17 d3), (proj 18 d3), (proj 19 d3)]), t3]) fun d4 =>
   ob (dBin .add t4 (.int .i64 1)) fun d5 =>
   P_l17_Heavy_3h R t0 d4 d5)
   (ob (dBin .gtr t3 (.int .i64 500)) fun d6 =>
   some d6)) := headP_of [] (by kernel_rfl)
theorem call_l17_Heavy (x0 : DV) {d : DV} (h : P_l17_Heavy (run cfg) x0 = some d) : (run cfg).p F_l17_Heavy [x0] = some d :=
  run_pure (fn := Tryz.f9) (c := code_l17_Heavy) (by kernel_rfl) Tryz.func9 (by kernel_rfl) ((show _ = P_l17_Heavy (run cfg) x0 by kernel_rfl).trans h)

/-! ### r17_TameTerm -/
noncomputable def code_r17_TameTerm : Code := Tryz.f10.body.getD .skip
noncomputable def P_r17_TameTerm (R : Orc) (x0 : DV) : Option DV := evP cfg R fl_r17_TameTerm (retP cfg.P Tryz.f10) [] code_r17_TameTerm (initSt Tryz.f10 [(x0, .val)] [])
theorem eq_r17_TameTerm (R : Orc) (x0 : DV) : P_r17_TameTerm R x0 =
  (og (isAggN 20 x0) <|
  ob (R.p F_r17_Right [(.agg [(proj 0 x0), (proj 1 x0), (proj 2 x0), (proj 3 x0), (proj 4 x0), (proj 5 x0), (proj 6 x0), (proj 7 x0), (proj 8 x0), (proj 9 x0), (proj 10 x0), (proj 11 x0), (proj 12 x0), (proj 13 x0), (proj 14 x0), (proj 15 x0), (proj 16 x0), (proj 17 x0), (proj 18 x0), (proj 19 x0)])]) fun d1 =>
  ob (dUn .not d1) fun d2 =>
  oif d2
   (some (.bool true))
   (ob (R.r F_r17_bulk [(.undef, (.ptr 0 0)), ((.agg [(proj 0 x0), (proj 1 x0), (proj 2 x0), (proj 3 x0), (proj 4 x0), (proj 5 x0), (proj 6 x0), (proj 7 x0), (proj 8 x0), (proj 9 x0), (proj 10 x0), (proj 11 x0), (proj 12 x0), (proj 13 x0), (proj 14 x0), (proj 15 x0), (proj 16 x0), (proj 17 x0), (proj 18 x0), (proj 19 x0)]), .val), ((.list 2 []), .val)] [SObj.box [((.bool false), .val)]]) fun q3 =>
   ob (sgBox q3.2 0) fun c4 =>
   ob (cellDat c4 0) fun d5 =>
   ob (dUn .not d5) fun d6 =>
   some d6)) := evP_of [] (by kernel_rfl)
theorem call_r17_TameTerm (x0 : DV) {d : DV} (h : P_r17_TameTerm (run cfg) x0 = some d) : (run cfg).p F_r17_TameTerm [x0] = some d :=
  run_pure (fn := Tryz.f10) (c := code_r17_TameTerm) (by kernel_rfl) Tryz.func10 (by kernel_rfl) ((show _ = P_r17_TameTerm (run cfg) x0 by kernel_rfl).trans h)

/-! ### check_Type -/
noncomputable def code_check_Type : Code := Tryz.f11.body.getD .skip
noncomputable def P_check_Type (R : Orc) (x0 : DV) : Option DV := evP cfg R fl_check_Type (retP cfg.P Tryz.f11) [] code_check_Type (initSt Tryz.f11 [(x0, .val)] [])
theorem eq_check_Type (R : Orc) (x0 : DV) : P_check_Type R x0 =
  (og (isAggN 20 x0) <|
  ob (R.p F_term_Check [(.agg [(proj 0 x0), (proj 1 x0), (proj 2 x0), (proj 3 x0), (proj 4 x0), (proj 5 x0), (proj 6 x0), (proj 7 x0), (proj 8 x0), (proj 9 x0), (proj 10 x0), (proj 11 x0), (proj 12 x0), (proj 13 x0), (proj 14 x0), (proj 15 x0), (proj 16 x0), (proj 17 x0), (proj 18 x0), (proj 19 x0)])]) fun d1 =>
  ob (dBin .neq d1 (.int .i64 0)) fun d2 =>
  oif d2
   (some (.tup [(.agg [(.int .i64 0), (.int .i64 0), (.list 3 [])]), (.int .i64 1)]))
   (ob (R.r F_check_scope_term [(.undef, (.map 0)), ((.agg [(proj 0 x0), (proj 1 x0), (proj 2 x0), (proj 3 x0), (proj 4 x0), (proj 5 x0), (proj 6 x0), (proj 7 x0), (proj 8 x0), (proj 9 x0), (proj 10 x0), (proj 11 x0), (proj 12 x0), (proj 13 x0), (proj 14 x0), (proj 15 x0), (proj 16 x0), (proj 17 x0), (proj 18 x0), (proj 19 x0)]), .val), ((.list 5 []), .val)] [.map false []]) fun q3 =>
   ob (dExt 0 (.tup q3.1)) fun d4 =>
   ob (dExt 1 (.tup q3.1)) fun d5 =>
   og (isAggN 3 d4) <|
   some (.tup [(.agg [(proj 0 d4), (proj 1 d4), (proj 2 d4)]), d5]))) := evP_of [] (by kernel_rfl)
theorem call_check_Type (x0 : DV) {d : DV} (h : P_check_Type (run cfg) x0 = some d) : (run cfg).p F_check_Type [x0] = some d :=
  run_pure (fn := Tryz.f11) (c := code_check_Type) (by kernel_rfl) Tryz.func11 (by kernel_rfl) ((show _ = P_check_Type (run cfg) x0 by kernel_rfl).trans h)

/-! ### r17_Right -/
noncomputable def code_r17_Right : Code := Tryz.f12.body.getD .skip
noncomputable def P_r17_Right (R : Orc) (x0 : DV) : Option DV := evP cfg R fl_r17_Right (retP cfg.P Tryz.f12) [] code_r17_Right (initSt Tryz.f12 [(x0, .val)] [])
noncomputable def P_r17_Right_4h (R : Orc) (t3 : DV) (b1 : DV) : Option DV := headP cfg R fl_r17_Right (retP cfg.P Tryz.f12) [true, true, false, true, false] code_r17_Right ⟨spread .undef 21 0 [(3, t3)], spread .val 21 0 [(1, (.loc 1 0))], spread none 21 0 [(1, some [((proj 0 b1), .val), ((proj 1 b1), .val), ((proj 2 b1), .val), ((proj 3 b1), .val), ((proj 4 b1), .val), ((proj 5 b1), .val), ((proj 6 b1), .val), ((proj 7 b1), .val), ((proj 8 b1), .val), ((proj 9 b1), .val), ((proj 10 b1), .val), ((proj 11 b1), .val), ((proj 12 b1), .val), ((proj 13 b1), .val), ((proj 14 b1), .val), ((proj 15 b1), .val), ((proj 16 b1), .val), ((proj 17 b1), .val), ((proj 18 b1), .val), ((proj 19 b1), .val)])], []⟩
theorem eq_r17_Right (R : Orc) (x0 : DV) : P_r17_Right R x0 =
  (og (isAggN 20 x0) <|
  ob (R.p F_r17_own [(.agg [(proj 0 x0), (proj 1 x0), (proj 2 x0), (proj 3 x0), (proj 4 x0), (proj 5 x0), (proj 6 x0), (proj 7 x0), (proj 8 x0), (proj 9 x0), (proj 10 x0), (proj 11 x0), (proj 12 x0), (proj 13 x0), (proj 14 x0), (proj 15 x0), (proj 16 x0), (proj 17 x0), (proj 18 x0), (proj 19 x0)])]) fun d1 =>
  ob (dUn .not d1) fun d2 =>
  oif d2
   (some (.bool false))
   (P_r17_Right_4h R (.int .i64 0) x0)) := evP_of [] (by kernel_rfl)
theorem eq_r17_Right_4h (R : Orc) (t3 : DV) (b1 : DV) : P_r17_Right_4h R t3 b1 =
  (ob (dLen (proj 19 b1)) fun d1 =>
  ob (dBin .lss t3 d1) fun d2 =>
  oif d2
   (ob (dIdx 20 (proj 19 b1) t3) fun d3 =>
   ob (R.p F_r17_Right [(.agg [(proj 0 d3), (proj 1 d3), (proj 2 d3), (proj 3 d3), (proj 4 d3), (proj 5 d3), (proj 6 d3), (proj 7 d3), (proj 8 d3), (proj 9 d3), (proj 10 d3), (proj 11 d3), (proj 12 d3), (proj 13 d3), (proj 14 d3), (proj 15 d3), (proj 16 d3), (proj 17 d3), (proj 18 d3), (proj 19 d3)])]) fun d4 =>
   ob (dUn .not d4) fun d5 =>
   oif d5
    (some (.bool false))
    (ob (dBin .add t3 (.int .i64 1)) fun d6 =>
    P_r17_Right_4h R d6 b1))
   (some (.bool true))) := headP_of [] (by kernel_rfl)
theorem call_r17_Right (x0 : DV) {d : DV} (h : P_r17_Right (run cfg) x0 = some d) : (run cfg).p F_r17_Right [x0] = some d :=
  run_pure (fn := Tryz.f12) (c := code_r17_Right) (by kernel_rfl) Tryz.func12 (by kernel_rfl) ((show _ = P_r17_Right (run cfg) x0 by kernel_rfl).trans h)

/-! ### l19_wakes -/
noncomputable def code_l19_wakes : Code := Tryz.f13.body.getD .skip
noncomputable def P_l19_wakes (R : Orc) : Option DV := evP cfg R fl_l19_wakes (retP cfg.P Tryz.f13) [] code_l19_wakes (initSt Tryz.f13 [] [])
set_option maxRecDepth 100000 in
theorem eq_l19_wakes (R : Orc) : P_l19_wakes R =
  (ob (R.p F_l19_cast [(.int .i64 1), (.int .i64 5), (.agg [(.int .i64 2), (.int .i64 0), (.int .i64 0), (.str ⟨#[]⟩), (.str ⟨#[]⟩), (.int .i64 5), (.str ⟨#[]⟩), (.int .i64 0), (.int .i64 0), (.bool false), (.list 1 []), (.int .i64 0), (.int .i64 0), (.list 3 []), (.int .i64 0), (.int .i64 0), (.list 3 []), (.list 3 []), (.list 7 []), (.list 20 [])])]) fun d1 =>
  ob (R.p F_check_Type [d1]) fun d2 =>
  ob (dExt 0 d2) fun d3 =>
  ob (dExt 1 d2) fun d4 =>
  og (isAggN 3 d3) <|
  ob (R.p F_l19_cast [(.int .i64 1), (.int .i64 2), (.agg [(.int .i64 2), (.int .i64 0), (.int .i64 0), (.str ⟨#[]⟩), (.str ⟨#[]⟩), (.int .i64 5), (.str ⟨#[]⟩), (.int .i64 0), (.int .i64 0), (.bool false), (.list 1 []), (.int .i64 0), (.int .i64 0), (.list 3 []), (.int .i64 0), (.int .i64 0), (.list 3 []), (.list 3 []), (.list 7 []), (.list 20 [])])]) fun d5 =>
  ob (R.p F_check_Type [d5]) fun d6 =>
  ob (dExt 0 d6) fun d7 =>
  ob (dExt 1 d6) fun d8 =>
  og (isAggN 3 d7) <|
  ob (R.p F_check_Type [(.agg [(.int .i64 1), (.int .i64 0), (.int .i64 0), (.str ⟨#[120]⟩), (.str ⟨#[]⟩), (.int .i64 0), (.str ⟨#[]⟩), (.int .i64 0), (.int .i64 0), (.bool false), (.list 1 []), (.int .i64 0), (.int .i64 0), (.list 3 []), (.int .i64 0), (.int .i64 0), (.list 3 []), (.list 3 []), (.list 7 []), (.list 20 [])])]) fun d9 =>
  ob (dExt 0 d9) fun d10 =>
  ob (dExt 1 d9) fun d11 =>
  og (isAggN 3 d10) <|
  ob (dBin .eql d4 (.int .i64 0)) fun d12 =>
  ogd d12
   (ob (dBin .eql (proj 0 d3) (.int .i64 5)) fun d13 =>
   ogd d13
    (ob (dBin .eql d8 (.int .i64 4)) fun d14 =>
    ogd d14
     (ob (dBin .eql d11 (.int .i64 6)) fun d15 =>
     some d15)
     (some (.bool false))
     none)
    (some (.bool false))
    none)
   (some (.bool false))
   none) := evP_of [] (by kernel_rfl)
theorem call_l19_wakes {d : DV} (h : P_l19_wakes (run cfg) = some d) : (run cfg).p F_l19_wakes [] = some d :=
  run_pure (fn := Tryz.f13) (c := code_l19_wakes) (by kernel_rfl) Tryz.func13 (by kernel_rfl) ((show _ = P_l19_wakes (run cfg) by kernel_rfl).trans h)

/-! ### r17_Type -/
noncomputable def code_r17_Type : Code := Tryz.f14.body.getD .skip
noncomputable def P_r17_Type (R : Orc) (x0 : DV) : Option DV := evP cfg R fl_r17_Type (retP cfg.P Tryz.f14) [] code_r17_Type (initSt Tryz.f14 [(x0, .val)] [])
theorem eq_r17_Type (R : Orc) (x0 : DV) : P_r17_Type R x0 =
  (og (isAggN 20 x0) <|
  ob (R.r F_r17_K_typ [(.undef, (.ptr 0 0)), ((.agg [(proj 0 x0), (proj 1 x0), (proj 2 x0), (proj 3 x0), (proj 4 x0), (proj 5 x0), (proj 6 x0), (proj 7 x0), (proj 8 x0), (proj 9 x0), (proj 10 x0), (proj 11 x0), (proj 12 x0), (proj 13 x0), (proj 14 x0), (proj 15 x0), (proj 16 x0), (proj 17 x0), (proj 18 x0), (proj 19 x0)]), .val), ((.list 5 []), .val), ((.list 1 []), .val)] [SObj.box [((.int .i64 0), .val)]]) fun q1 =>
  og (isAggN 3 (q1.1.getD 0 .undef)) <|
  ob (sgBox q1.2 0) fun c2 =>
  ob (cellDat c2 0) fun d3 =>
  ob (dBin .neq d3 (.int .i64 0)) fun d4 =>
  oif d4
   (ob (sgBox q1.2 0) fun c5 =>
   ob (cellDat c5 0) fun d6 =>
   some (.tup [(.agg [(.int .i64 0), (.int .i64 0), (.list 3 [])]), d6]))
   (some (.tup [(.agg [(proj 0 (q1.1.getD 0 .undef)), (proj 1 (q1.1.getD 0 .undef)), (proj 2 (q1.1.getD 0 .undef))]), (.int .i64 0)]))) := evP_of [] (by kernel_rfl)
theorem call_r17_Type (x0 : DV) {d : DV} (h : P_r17_Type (run cfg) x0 = some d) : (run cfg).p F_r17_Type [x0] = some d :=
  run_pure (fn := Tryz.f14) (c := code_r17_Type) (by kernel_rfl) Tryz.func14 (by kernel_rfl) ((show _ = P_r17_Type (run cfg) x0 by kernel_rfl).trans h)

/-! ### keep_Same -/
noncomputable def code_keep_Same : Code := Tryz.f15.body.getD .skip
noncomputable def P_keep_Same (R : Orc) (x0 : DV) (x1 : DV) : Option DV := evP cfg R fl_keep_Same (retP cfg.P Tryz.f15) [] code_keep_Same (initSt Tryz.f15 [(x0, .val), (x1, .val)] [])
noncomputable def P_keep_Same_4h (R : Orc) (t5 : DV) (b2 : DV) (b3 : DV) : Option DV := headP cfg R fl_keep_Same (retP cfg.P Tryz.f15) [true, true, false, true, false] code_keep_Same ⟨spread .undef 46 0 [(5, t5)], spread .val 46 0 [(2, (.loc 2 0)), (3, (.loc 3 0))], spread none 46 0 [(2, some [((proj 0 b2), .val), ((proj 1 b2), .val), ((proj 2 b2), .val)]), (3, some [((proj 0 b3), .val), ((proj 1 b3), .val), ((proj 2 b3), .val)])], []⟩
set_option maxRecDepth 100000 in
theorem eq_keep_Same (R : Orc) (x0 : DV) (x1 : DV) : P_keep_Same R x0 x1 =
  (og (isAggN 3 x0) <|
  og (isAggN 3 x1) <|
  ob (dBin .neq (proj 0 x0) (proj 0 x1)) fun d1 =>
  ogd d1
   (some (.bool false))
   (ob (dBin .neq (proj 1 x0) (proj 1 x1)) fun d2 =>
   ogd d2
    (some (.bool false))
    (ob (dLen (proj 2 x0)) fun d3 =>
    ob (dLen (proj 2 x1)) fun d4 =>
    ob (dBin .neq d3 d4) fun d5 =>
    oif d5
     (some (.bool false))
     (P_keep_Same_4h R (.int .i64 0) x0 x1))
    none)
   none) := evP_of [] (by kernel_rfl)
theorem eq_keep_Same_4h (R : Orc) (t5 : DV) (b2 : DV) (b3 : DV) : P_keep_Same_4h R t5 b2 b3 =
  (ob (dLen (proj 2 b2)) fun d1 =>
  ob (dBin .lss t5 d1) fun d2 =>
  oif d2
   (ob (dIdx 3 (proj 2 b2) t5) fun d3 =>
   ob (dIdx 3 (proj 2 b3) t5) fun d4 =>
   ob (R.p F_keep_Same [(.agg [(proj 0 d3), (proj 1 d3), (proj 2 d3)]), (.agg [(proj 0 d4), (proj 1 d4), (proj 2 d4)])]) fun d5 =>
   ob (dUn .not d5) fun d6 =>
   oif d6
    (some (.bool false))
    (ob (dBin .add t5 (.int .i64 1)) fun d7 =>
    P_keep_Same_4h R d7 b2 b3))
   (some (.bool true))) := headP_of [] (by kernel_rfl)
theorem call_keep_Same (x0 : DV) (x1 : DV) {d : DV} (h : P_keep_Same (run cfg) x0 x1 = some d) : (run cfg).p F_keep_Same [x0, x1] = some d :=
  run_pure (fn := Tryz.f15) (c := code_keep_Same) (by kernel_rfl) Tryz.func15 (by kernel_rfl) ((show _ = P_keep_Same (run cfg) x0 x1 by kernel_rfl).trans h)

/-! ### l11_Small -/
noncomputable def code_l11_Small : Code := Tryz.f17.body.getD .skip
noncomputable def P_l11_Small (R : Orc) (x0 : DV) : Option DV := evP cfg R fl_l11_Small (retP cfg.P Tryz.f17) [] code_l11_Small (initSt Tryz.f17 [(x0, .val)] [])
noncomputable def P_l11_Small_2h (R : Orc) (t0 : DV) (t3 : DV) : Option DV := headP cfg R fl_l11_Small (retP cfg.P Tryz.f17) [true, false, true, false] code_l11_Small ⟨spread .undef 32 0 [(0, t0), (3, t3)], spread .val 32 0 [], spread none 32 0 [], []⟩
theorem eq_l11_Small (R : Orc) (x0 : DV) : P_l11_Small R x0 =
  (P_l11_Small_2h R x0 (.int .i64 0)) := evP_of [] (by kernel_rfl)
set_option maxRecDepth 100000 in
theorem eq_l11_Small_2h (R : Orc) (t0 : DV) (t3 : DV) : P_l11_Small_2h R t0 t3 =
  (ob (dLen t0) fun d1 =>
  ob (dBin .lss t3 d1) fun d2 =>
  oif d2
   (ob (dIdx 3 t0 t3) fun d3 =>
   ob (R.p F_l03_Heavy [(.list 3 [(.agg [(proj 0 d3), (proj 1 d3), (proj 2 d3)])])]) fun d4 =>
   ogd d4
    (some (.bool false))
    (ob (dIdx 3 t0 t3) fun d5 =>
    ob (R.p F_r08_Deep [(.agg [(proj 0 d5), (proj 1 d5), (proj 2 d5)]), (.int .i64 60)]) fun d6 =>
    ogd d6
     (some (.bool false))
     (ob (dIdx 3 t0 t3) fun d7 =>
     ob (R.p F_r03_Vars [(.agg [(proj 0 d7), (proj 1 d7), (proj 2 d7)])]) fun d8 =>
     ob (dLen d8) fun d9 =>
     ob (dBin .gtr d9 (.int .i64 8)) fun d10 =>
     oif d10
      (some (.bool false))
      (ob (dBin .add t3 (.int .i64 1)) fun d11 =>
      P_l11_Small_2h R t0 d11))
     none)
    none)
   (some (.bool true))) := headP_of [] (by kernel_rfl)
theorem call_l11_Small (x0 : DV) {d : DV} (h : P_l11_Small (run cfg) x0 = some d) : (run cfg).p F_l11_Small [x0] = some d :=
  run_pure (fn := Tryz.f17) (c := code_l11_Small) (by kernel_rfl) Tryz.func17 (by kernel_rfl) ((show _ = P_l11_Small (run cfg) x0 by kernel_rfl).trans h)

/-! ### r03_Right -/
noncomputable def code_r03_Right : Code := Tryz.f18.body.getD .skip
noncomputable def P_r03_Right (R : Orc) (x0 : DV) : Option DV := evP cfg R fl_r03_Right (retP cfg.P Tryz.f18) [] code_r03_Right (initSt Tryz.f18 [(x0, .val)] [])
noncomputable def P_r03_Right_4h (R : Orc) (t3 : DV) (b1 : DV) : Option DV := headP cfg R fl_r03_Right (retP cfg.P Tryz.f18) [true, true, false, true, false] code_r03_Right ⟨spread .undef 45 0 [(3, t3)], spread .val 45 0 [(1, (.loc 1 0))], spread none 45 0 [(1, some [((proj 0 b1), .val), ((proj 1 b1), .val), ((proj 2 b1), .val)])], []⟩
set_option maxRecDepth 100000 in
theorem eq_r03_Right (R : Orc) (x0 : DV) : P_r03_Right R x0 =
  (og (isAggN 3 x0) <|
  ob (R.p F_r03_Kids [(proj 0 x0)]) fun d1 =>
  ob (dLen (proj 2 x0)) fun d2 =>
  ob (dBin .neq d1 d2) fun d3 =>
  ogd d3
   (some (.bool false))
   (ob (dBin .lss (proj 1 x0) (.int .i64 0)) fun d4 =>
   ogd d4
    (some (.bool false))
    (ob (dBin .gtr (proj 1 x0) (.int .i64 1048576)) fun d5 =>
    ogd d5
     (some (.bool false))
     (ob (dBin .neq (proj 0 x0) (.int .i64 6)) fun d6 =>
     ogd d6
      (ob (dBin .neq (proj 1 x0) (.int .i64 0)) fun d7 =>
      oif d7
       (some (.bool false))
       (P_r03_Right_4h R (.int .i64 0) x0))
      (P_r03_Right_4h R (.int .i64 0) x0)
      none)
     none)
    none)
   none) := evP_of [] (by kernel_rfl)
theorem eq_r03_Right_4h (R : Orc) (t3 : DV) (b1 : DV) : P_r03_Right_4h R t3 b1 =
  (ob (dLen (proj 2 b1)) fun d1 =>
  ob (dBin .lss t3 d1) fun d2 =>
  oif d2
   (ob (dIdx 3 (proj 2 b1) t3) fun d3 =>
   ob (R.p F_r03_Right [(.agg [(proj 0 d3), (proj 1 d3), (proj 2 d3)])]) fun d4 =>
   ob (dUn .not d4) fun d5 =>
   oif d5
    (some (.bool false))
    (ob (dBin .add t3 (.int .i64 1)) fun d6 =>
    P_r03_Right_4h R d6 b1))
   (some (.bool true))) := headP_of [] (by kernel_rfl)
theorem call_r03_Right (x0 : DV) {d : DV} (h : P_r03_Right (run cfg) x0 = some d) : (run cfg).p F_r03_Right [x0] = some d :=
  run_pure (fn := Tryz.f18) (c := code_r03_Right) (by kernel_rfl) Tryz.func18 (by kernel_rfl) ((show _ = P_r03_Right (run cfg) x0 by kernel_rfl).trans h)

/-! ### r03_Without -/
noncomputable def code_r03_Without : Code := Tryz.f19.body.getD .skip
noncomputable def P_r03_Without (R : Orc) (x0 : DV) (x1 : DV) : Option DV := evP cfg R fl_r03_Without (retP cfg.P Tryz.f19) [] code_r03_Without (initSt Tryz.f19 [(x0, .val), (x1, .val)] [])
noncomputable def P_r03_Without_4h (R : Orc) (t1 : DV) (t5 : DV) (b2 : DV) : Option DV := headP cfg R fl_r03_Without (retP cfg.P Tryz.f19) [true, true, false, true, false] code_r03_Without ⟨spread .undef 25 0 [(1, t1), (5, t5)], spread .val 25 0 [(2, (.loc 2 0))], spread none 25 0 [(2, some [((proj 0 b2), .val), ((proj 1 b2), .val), ((proj 2 b2), .val)])], []⟩
theorem eq_r03_Without (R : Orc) (x0 : DV) (x1 : DV) : P_r03_Without R x0 x1 =
  (og (isAggN 3 x0) <|
  ob (dBin .eql (proj 0 x0) x1) fun d1 =>
  oif d1
   (some (.bool false))
   (P_r03_Without_4h R x1 (.int .i64 0) x0)) := evP_of [] (by kernel_rfl)
theorem eq_r03_Without_4h (R : Orc) (t1 : DV) (t5 : DV) (b2 : DV) : P_r03_Without_4h R t1 t5 b2 =
  (ob (dLen (proj 2 b2)) fun d1 =>
  ob (dBin .lss t5 d1) fun d2 =>
  oif d2
   (ob (dIdx 3 (proj 2 b2) t5) fun d3 =>
   ob (R.p F_r03_Without [(.agg [(proj 0 d3), (proj 1 d3), (proj 2 d3)]), t1]) fun d4 =>
   ob (dUn .not d4) fun d5 =>
   oif d5
    (some (.bool false))
    (ob (dBin .add t5 (.int .i64 1)) fun d6 =>
    P_r03_Without_4h R t1 d6 b2))
   (some (.bool true))) := headP_of [] (by kernel_rfl)
theorem call_r03_Without (x0 : DV) (x1 : DV) {d : DV} (h : P_r03_Without (run cfg) x0 x1 = some d) : (run cfg).p F_r03_Without [x0, x1] = some d :=
  run_pure (fn := Tryz.f19) (c := code_r03_Without) (by kernel_rfl) Tryz.func19 (by kernel_rfl) ((show _ = P_r03_Without (run cfg) x0 x1 by kernel_rfl).trans h)

/-! ### r03_In -/
noncomputable def code_r03_In : Code := Tryz.f20.body.getD .skip
noncomputable def P_r03_In (R : Orc) (x0 : DV) (x1 : DV) : Option DV := evP cfg R fl_r03_In (retP cfg.P Tryz.f20) [] code_r03_In (initSt Tryz.f20 [(x0, .val), (x1, .val)] [])
noncomputable def P_r03_In_2h (R : Orc) (t0 : DV) (t1 : DV) (t5 : DV) : Option DV := headP cfg R fl_r03_In (retP cfg.P Tryz.f20) [true, false, true, false] code_r03_In ⟨spread .undef 18 0 [(0, t0), (1, t1), (5, t5)], spread .val 18 0 [], spread none 18 0 [], []⟩
theorem eq_r03_In (R : Orc) (x0 : DV) (x1 : DV) : P_r03_In R x0 x1 =
  (P_r03_In_2h R x0 x1 (.int .i64 0)) := evP_of [] (by kernel_rfl)
theorem eq_r03_In_2h (R : Orc) (t0 : DV) (t1 : DV) (t5 : DV) : P_r03_In_2h R t0 t1 t5 =
  (ob (dLen t0) fun d1 =>
  ob (dBin .lss t5 d1) fun d2 =>
  oif d2
   (ob (dIdx 1 t0 t5) fun d3 =>
   og (isLeaf d3) <|
   ob (dBin .eql d3 t1) fun d4 =>
   oif d4
    (some (.bool true))
    (ob (dBin .add t5 (.int .i64 1)) fun d5 =>
    P_r03_In_2h R t0 t1 d5))
   (some (.bool false))) := headP_of [] (by kernel_rfl)
theorem call_r03_In (x0 : DV) (x1 : DV) {d : DV} (h : P_r03_In (run cfg) x0 x1 = some d) : (run cfg).p F_r03_In [x0, x1] = some d :=
  run_pure (fn := Tryz.f20) (c := code_r03_In) (by kernel_rfl) Tryz.func20 (by kernel_rfl) ((show _ = P_r03_In (run cfg) x0 x1 by kernel_rfl).trans h)

/-! ### r03_Size -/
noncomputable def code_r03_Size : Code := Tryz.f21.body.getD .skip
noncomputable def P_r03_Size (R : Orc) (x0 : DV) : Option DV := evP cfg R fl_r03_Size (retP cfg.P Tryz.f21) [] code_r03_Size (initSt Tryz.f21 [(x0, .val)] [])
noncomputable def P_r03_Size_3h (R : Orc) (t3 : DV) (t4 : DV) (b1 : DV) : Option DV := headP cfg R fl_r03_Size (retP cfg.P Tryz.f21) [true, true, false, true, false] code_r03_Size ⟨spread .undef 21 0 [(3, t3), (4, t4)], spread .val 21 0 [(1, (.loc 1 0))], spread none 21 0 [(1, some [((proj 0 b1), .val), ((proj 1 b1), .val), ((proj 2 b1), .val)])], []⟩
theorem eq_r03_Size (R : Orc) (x0 : DV) : P_r03_Size R x0 =
  (og (isAggN 3 x0) <|
  P_r03_Size_3h R (.int .i64 1) (.int .i64 0) x0) := evP_of [] (by kernel_rfl)
theorem eq_r03_Size_3h (R : Orc) (t3 : DV) (t4 : DV) (b1 : DV) : P_r03_Size_3h R t3 t4 b1 =
  (ob (dLen (proj 2 b1)) fun d1 =>
  ob (dBin .lss t4 d1) fun d2 =>
  oif d2
   (ob (dIdx 3 (proj 2 b1) t4) fun d3 =>
   ob (R.p F_r03_Size [(.agg [(proj 0 d3), (proj 1 d3), (proj 2 d3)])]) fun d4 =>
   ob (dBin .add t3 d4) fun d5 =>
   ob (dBin .add t4 (.int .i64 1)) fun d6 =>
   P_r03_Size_3h R d5 d6 b1)
   (some t3)) := headP_of [] (by kernel_rfl)
theorem call_r03_Size (x0 : DV) {d : DV} (h : P_r03_Size (run cfg) x0 = some d) : (run cfg).p F_r03_Size [x0] = some d :=
  run_pure (fn := Tryz.f21) (c := code_r03_Size) (by kernel_rfl) Tryz.func21 (by kernel_rfl) ((show _ = P_r03_Size (run cfg) x0 by kernel_rfl).trans h)

/-! ### scheme_Subst -/
noncomputable def code_scheme_Subst : Code := Tryz.f23.body.getD .skip
noncomputable def P_scheme_Subst (R : Orc) (x0 : DV) (x1 : DV) : Option DV := evP cfg R fl_scheme_Subst (retP cfg.P Tryz.f23) [] code_scheme_Subst (initSt Tryz.f23 [(x0, .val), (x1, .val)] [])
noncomputable def P_scheme_Subst_5h (R : Orc) (t1 : DV) (t16 : DV) (t17 : DV) (t18 : DV) (b2 : DV) (b4_0 : DV) (b4_1 : DV) (b4_2 : DV) (sg : List SObj) : Option DV := headP cfg R fl_scheme_Subst (retP cfg.P Tryz.f23) [true, true, true, false, true, false] code_scheme_Subst ⟨spread .undef 56 0 [(1, t1), (16, t16), (17, t17), (18, t18)], spread .val 56 0 [(2, (.loc 2 0)), (4, (.loc 4 0)), (6, (.map 0))], spread none 56 0 [(2, some [((proj 0 b2), .val), ((proj 1 b2), .val), ((proj 2 b2), .val)]), (4, some [(b4_0, .val), (b4_1, .val), (b4_2, .val)])], sg⟩
theorem eq_scheme_Subst (R : Orc) (x0 : DV) (x1 : DV) : P_scheme_Subst R x0 x1 =
  (og (isAggN 3 x0) <|
  ob (R.p F_typ_Check [(.agg [(proj 0 x0), (proj 1 x0), (proj 2 x0)])]) fun d1 =>
  ob (dBin .neq d1 (.int .i64 0)) fun d2 =>
  oif d2
   (some (.tup [(.agg [(.int .i64 0), (.int .i64 0), (.list 3 [])]), (.int .i64 1)]))
   (ob (dLen x1) fun d3 =>
   P_scheme_Subst_5h R x1 x1 d3 (.int .i64 0) x0 (.int .i64 0) (.int .i64 0) (.list 3 []) [.map false []])) := evP_of [] (by kernel_rfl)
set_option maxRecDepth 100000 in
theorem eq_scheme_Subst_5h (R : Orc) (t1 : DV) (t16 : DV) (t17 : DV) (t18 : DV) (b2 : DV) (b4_0 : DV) (b4_1 : DV) (b4_2 : DV) (sg : List SObj) : P_scheme_Subst_5h R t1 t16 t17 t18 b2 b4_0 b4_1 b4_2 sg =
  (ob (dBin .lss t18 t17) fun d1 =>
  oif d1
   (ob (dIdx 4 t16 t18) fun d2 =>
   ob (dBin .lss (proj 0 d2) (.int .i64 0)) fun d3 =>
   ogd d3
    (some (.tup [(.agg [(.int .i64 0), (.int .i64 0), (.list 3 [])]), (.int .i64 1)]))
    (ob (dBin .gtr (proj 0 d2) (.int .i64 1048576)) fun d4 =>
    ogd d4
     (some (.tup [(.agg [(.int .i64 0), (.int .i64 0), (.list 3 [])]), (.int .i64 1)]))
     (ob (R.p F_typ_Check [(.agg [(proj 1 d2), (proj 2 d2), (proj 3 d2)])]) fun d5 =>
     ob (dBin .neq d5 (.int .i64 0)) fun d6 =>
     oif d6
      (some (.tup [(.agg [(.int .i64 0), (.int .i64 0), (.list 3 [])]), (.int .i64 1)]))
      (og (isKey false (proj 0 d2) && true) <|
      ob (sgMap sg 0) fun m7 =>
      og (m7.1 == false) <|
      ob (dUn .not (.bool (mGet m7.2 (proj 0 d2)).isSome)) fun d8 =>
      oif d8
       (og (isKey false (proj 0 d2) && true && true) <|
       ob (sgMap sg 0) fun m9 =>
       og (m9.1 == false) <|
       ob (dBin .add t18 (.int .i64 1)) fun d10 =>
       P_scheme_Subst_5h R t1 t16 t17 d10 b2 b4_0 b4_1 b4_2 (sg.set 0 (.map false (mSet m9.2 (proj 0 d2) t18))))
       (ob (dBin .add t18 (.int .i64 1)) fun d11 =>
       P_scheme_Subst_5h R t1 t16 t17 d11 b2 b4_0 b4_1 b4_2 sg)))
     none)
    none)
   (ob (R.r F_scheme_put [((.agg [(proj 0 b2), (proj 1 b2), (proj 2 b2)]), .val), (t1, .val), (.undef, (.map 0))] sg) fun q12 =>
   og (isAggN 3 (q12.1.getD 0 .undef)) <|
   some (.tup [(.agg [(proj 0 (q12.1.getD 0 .undef)), (proj 1 (q12.1.getD 0 .undef)), (proj 2 (q12.1.getD 0 .undef))]), (.int .i64 0)]))) := headP_of [] (by kernel_rfl)
theorem call_scheme_Subst (x0 : DV) (x1 : DV) {d : DV} (h : P_scheme_Subst (run cfg) x0 x1 = some d) : (run cfg).p F_scheme_Subst [x0, x1] = some d :=
  run_pure (fn := Tryz.f23) (c := code_scheme_Subst) (by kernel_rfl) Tryz.func23 (by kernel_rfl) ((show _ = P_scheme_Subst (run cfg) x0 x1 by kernel_rfl).trans h)

/-! ### r05_SameAt -/
noncomputable def code_r05_SameAt : Code := Tryz.f31.body.getD .skip
noncomputable def P_r05_SameAt (R : Orc) (x0 : DV) (x1 : DV) : Option DV := evP cfg R fl_r05_SameAt (retP cfg.P Tryz.f31) [] code_r05_SameAt (initSt Tryz.f31 [(x0, .val), (x1, .val)] [])
noncomputable def P_r05_SameAt_4h (R : Orc) (t5 : DV) (b2 : DV) (b3 : DV) : Option DV := headP cfg R fl_r05_SameAt (retP cfg.P Tryz.f31) [true, true, false, true, false] code_r05_SameAt ⟨spread .undef 56 0 [(5, t5)], spread .val 56 0 [(2, (.loc 2 0)), (3, (.loc 3 0))], spread none 56 0 [(2, some [((proj 0 b2), .val), ((proj 1 b2), .val), ((proj 2 b2), .val), ((proj 3 b2), .val), ((proj 4 b2), .val), ((proj 5 b2), .val), ((proj 6 b2), .val), ((proj 7 b2), .val), ((proj 8 b2), .val), ((proj 9 b2), .val), ((proj 10 b2), .val), ((proj 11 b2), .val), ((proj 12 b2), .val), ((proj 13 b2), .val), ((proj 14 b2), .val), ((proj 15 b2), .val)]), (3, some [((proj 0 b3), .val), ((proj 1 b3), .val), ((proj 2 b3), .val), ((proj 3 b3), .val), ((proj 4 b3), .val), ((proj 5 b3), .val), ((proj 6 b3), .val), ((proj 7 b3), .val), ((proj 8 b3), .val), ((proj 9 b3), .val), ((proj 10 b3), .val), ((proj 11 b3), .val), ((proj 12 b3), .val), ((proj 13 b3), .val), ((proj 14 b3), .val), ((proj 15 b3), .val)])], []⟩
noncomputable def P_r05_SameAt_9h (R : Orc) (t6 : DV) (b2 : DV) (b3 : DV) : Option DV := headP cfg R fl_r05_SameAt (retP cfg.P Tryz.f31) [true, true, true, false, true, false] code_r05_SameAt ⟨spread .undef 56 0 [(6, t6)], spread .val 56 0 [(2, (.loc 2 0)), (3, (.loc 3 0))], spread none 56 0 [(2, some [((proj 0 b2), .val), ((proj 1 b2), .val), ((proj 2 b2), .val), ((proj 3 b2), .val), ((proj 4 b2), .val), ((proj 5 b2), .val), ((proj 6 b2), .val), ((proj 7 b2), .val), ((proj 8 b2), .val), ((proj 9 b2), .val), ((proj 10 b2), .val), ((proj 11 b2), .val), ((proj 12 b2), .val), ((proj 13 b2), .val), ((proj 14 b2), .val), ((proj 15 b2), .val)]), (3, some [((proj 0 b3), .val), ((proj 1 b3), .val), ((proj 2 b3), .val), ((proj 3 b3), .val), ((proj 4 b3), .val), ((proj 5 b3), .val), ((proj 6 b3), .val), ((proj 7 b3), .val), ((proj 8 b3), .val), ((proj 9 b3), .val), ((proj 10 b3), .val), ((proj 11 b3), .val), ((proj 12 b3), .val), ((proj 13 b3), .val), ((proj 14 b3), .val), ((proj 15 b3), .val)])], []⟩
theorem eq_r05_SameAt (R : Orc) (x0 : DV) (x1 : DV) : P_r05_SameAt R x0 x1 =
  (og (isAggN 16 x0) <|
  og (isAggN 16 x1) <|
  ob (R.p F_r05_Same [(.agg [(proj 0 x0), (proj 1 x0), (proj 2 x0), (proj 3 x0), (proj 4 x0), (proj 5 x0), (proj 6 x0), (proj 7 x0), (proj 8 x0), (proj 9 x0), (proj 10 x0), (proj 11 x0), (proj 12 x0), (proj 13 x0), (proj 14 x0), (proj 15 x0)]), (.agg [(proj 0 x1), (proj 1 x1), (proj 2 x1), (proj 3 x1), (proj 4 x1), (proj 5 x1), (proj 6 x1), (proj 7 x1), (proj 8 x1), (proj 9 x1), (proj 10 x1), (proj 11 x1), (proj 12 x1), (proj 13 x1), (proj 14 x1), (proj 15 x1)])]) fun d1 =>
  ob (dUn .not d1) fun d2 =>
  ogd d2
   (some (.bool false))
   (ob (dEqA [.int, .int] (.agg [(proj 1 x0), (proj 2 x0)]) (.agg [(proj 1 x1), (proj 2 x1)])) fun b3 =>
   oif (.bool !b3)
    (some (.bool false))
    (P_r05_SameAt_4h R (.int .i64 0) x0 x1))
   none) := evP_of [] (by kernel_rfl)
theorem eq_r05_SameAt_4h (R : Orc) (t5 : DV) (b2 : DV) (b3 : DV) : P_r05_SameAt_4h R t5 b2 b3 =
  (ob (dLen (proj 14 b2)) fun d1 =>
  ob (dBin .lss t5 d1) fun d2 =>
  oif d2
   (ob (dIdx 7 (proj 14 b2) t5) fun d3 =>
   ob (dIdx 7 (proj 14 b3) t5) fun d4 =>
   ob (R.p F_r05_patAt [(.agg [(proj 0 d3), (proj 1 d3), (proj 2 d3), (proj 3 d3), (proj 4 d3), (proj 5 d3), (proj 6 d3)]), (.agg [(proj 0 d4), (proj 1 d4), (proj 2 d4), (proj 3 d4), (proj 4 d4), (proj 5 d4), (proj 6 d4)])]) fun d5 =>
   ob (dUn .not d5) fun d6 =>
   oif d6
    (some (.bool false))
    (ob (dBin .add t5 (.int .i64 1)) fun d7 =>
    P_r05_SameAt_4h R d7 b2 b3))
   (P_r05_SameAt_9h R (.int .i64 0) b2 b3)) := headP_of [] (by kernel_rfl)
theorem eq_r05_SameAt_9h (R : Orc) (t6 : DV) (b2 : DV) (b3 : DV) : P_r05_SameAt_9h R t6 b2 b3 =
  (ob (dLen (proj 15 b2)) fun d1 =>
  ob (dBin .lss t6 d1) fun d2 =>
  oif d2
   (ob (dIdx 16 (proj 15 b2) t6) fun d3 =>
   ob (dIdx 16 (proj 15 b3) t6) fun d4 =>
   ob (R.p F_r05_SameAt [(.agg [(proj 0 d3), (proj 1 d3), (proj 2 d3), (proj 3 d3), (proj 4 d3), (proj 5 d3), (proj 6 d3), (proj 7 d3), (proj 8 d3), (proj 9 d3), (proj 10 d3), (proj 11 d3), (proj 12 d3), (proj 13 d3), (proj 14 d3), (proj 15 d3)]), (.agg [(proj 0 d4), (proj 1 d4), (proj 2 d4), (proj 3 d4), (proj 4 d4), (proj 5 d4), (proj 6 d4), (proj 7 d4), (proj 8 d4), (proj 9 d4), (proj 10 d4), (proj 11 d4), (proj 12 d4), (proj 13 d4), (proj 14 d4), (proj 15 d4)])]) fun d5 =>
   ob (dUn .not d5) fun d6 =>
   oif d6
    (some (.bool false))
    (ob (dBin .add t6 (.int .i64 1)) fun d7 =>
    P_r05_SameAt_9h R d7 b2 b3))
   (some (.bool true))) := headP_of [] (by kernel_rfl)
theorem call_r05_SameAt (x0 : DV) (x1 : DV) {d : DV} (h : P_r05_SameAt (run cfg) x0 x1 = some d) : (run cfg).p F_r05_SameAt [x0, x1] = some d :=
  run_pure (fn := Tryz.f31) (c := code_r05_SameAt) (by kernel_rfl) Tryz.func31 (by kernel_rfl) ((show _ = P_r05_SameAt (run cfg) x0 x1 by kernel_rfl).trans h)

/-! ### r05_Same -/
noncomputable def code_r05_Same : Code := Tryz.f62.body.getD .skip
noncomputable def P_r05_Same (R : Orc) (x0 : DV) (x1 : DV) : Option DV := evP cfg R fl_r05_Same (retP cfg.P Tryz.f62) [] code_r05_Same (initSt Tryz.f62 [(x0, .val), (x1, .val)] [])
noncomputable def P_r05_Same_3 (R : Orc) (b2 : DV) (b3 : DV) : Option DV := evP cfg R fl_r05_Same (retP cfg.P Tryz.f62) [true, true] code_r05_Same ⟨spread .undef 117 0 [], spread .val 117 0 [(2, (.loc 2 0)), (3, (.loc 3 0))], spread none 117 0 [(2, some [((proj 0 b2), .val), ((proj 1 b2), .val), ((proj 2 b2), .val), ((proj 3 b2), .val), ((proj 4 b2), .val), ((proj 5 b2), .val), ((proj 6 b2), .val), ((proj 7 b2), .val), ((proj 8 b2), .val), ((proj 9 b2), .val), ((proj 10 b2), .val), ((proj 11 b2), .val), ((proj 12 b2), .val), ((proj 13 b2), .val), ((proj 14 b2), .val), ((proj 15 b2), .val)]), (3, some [((proj 0 b3), .val), ((proj 1 b3), .val), ((proj 2 b3), .val), ((proj 3 b3), .val), ((proj 4 b3), .val), ((proj 5 b3), .val), ((proj 6 b3), .val), ((proj 7 b3), .val), ((proj 8 b3), .val), ((proj 9 b3), .val), ((proj 10 b3), .val), ((proj 11 b3), .val), ((proj 12 b3), .val), ((proj 13 b3), .val), ((proj 14 b3), .val), ((proj 15 b3), .val)])], []⟩
noncomputable def P_r05_Same_6h (R : Orc) (t5 : DV) (b2 : DV) (b3 : DV) : Option DV := headP cfg R fl_r05_Same (retP cfg.P Tryz.f62) [true, true, true, false, true, false] code_r05_Same ⟨spread .undef 117 0 [(5, t5)], spread .val 117 0 [(2, (.loc 2 0)), (3, (.loc 3 0))], spread none 117 0 [(2, some [((proj 0 b2), .val), ((proj 1 b2), .val), ((proj 2 b2), .val), ((proj 3 b2), .val), ((proj 4 b2), .val), ((proj 5 b2), .val), ((proj 6 b2), .val), ((proj 7 b2), .val), ((proj 8 b2), .val), ((proj 9 b2), .val), ((proj 10 b2), .val), ((proj 11 b2), .val), ((proj 12 b2), .val), ((proj 13 b2), .val), ((proj 14 b2), .val), ((proj 15 b2), .val)]), (3, some [((proj 0 b3), .val), ((proj 1 b3), .val), ((proj 2 b3), .val), ((proj 3 b3), .val), ((proj 4 b3), .val), ((proj 5 b3), .val), ((proj 6 b3), .val), ((proj 7 b3), .val), ((proj 8 b3), .val), ((proj 9 b3), .val), ((proj 10 b3), .val), ((proj 11 b3), .val), ((proj 12 b3), .val), ((proj 13 b3), .val), ((proj 14 b3), .val), ((proj 15 b3), .val)])], []⟩
noncomputable def P_r05_Same_11h (R : Orc) (t6 : DV) (b2 : DV) (b3 : DV) : Option DV := headP cfg R fl_r05_Same (retP cfg.P Tryz.f62) [true, true, true, true, false, true, false] code_r05_Same ⟨spread .undef 117 0 [(6, t6)], spread .val 117 0 [(2, (.loc 2 0)), (3, (.loc 3 0))], spread none 117 0 [(2, some [((proj 0 b2), .val), ((proj 1 b2), .val), ((proj 2 b2), .val), ((proj 3 b2), .val), ((proj 4 b2), .val), ((proj 5 b2), .val), ((proj 6 b2), .val), ((proj 7 b2), .val), ((proj 8 b2), .val), ((proj 9 b2), .val), ((proj 10 b2), .val), ((proj 11 b2), .val), ((proj 12 b2), .val), ((proj 13 b2), .val), ((proj 14 b2), .val), ((proj 15 b2), .val)]), (3, some [((proj 0 b3), .val), ((proj 1 b3), .val), ((proj 2 b3), .val), ((proj 3 b3), .val), ((proj 4 b3), .val), ((proj 5 b3), .val), ((proj 6 b3), .val), ((proj 7 b3), .val), ((proj 8 b3), .val), ((proj 9 b3), .val), ((proj 10 b3), .val), ((proj 11 b3), .val), ((proj 12 b3), .val), ((proj 13 b3), .val), ((proj 14 b3), .val), ((proj 15 b3), .val)])], []⟩
set_option maxRecDepth 100000 in
theorem eq_r05_Same (R : Orc) (x0 : DV) (x1 : DV) : P_r05_Same R x0 x1 =
  (og (isAggN 16 x0) <|
  og (isAggN 16 x1) <|
  ob (dBin .neq (proj 0 x0) (proj 0 x1)) fun d1 =>
  ogd d1
   (some (.bool false))
   (ob (dBin .neq (proj 3 x0) (proj 3 x1)) fun d2 =>
   ogd d2
    (some (.bool false))
    (ob (dBin .neq (proj 4 x0) (proj 4 x1)) fun d3 =>
    ogd d3
     (some (.bool false))
     (ob (dBin .neq (proj 5 x0) (proj 5 x1)) fun d4 =>
     ogd d4
      (some (.bool false))
      (ob (dBin .neq (proj 6 x0) (proj 6 x1)) fun d5 =>
      ogd d5
       (some (.bool false))
       (ob (dBin .neq (proj 7 x0) (proj 7 x1)) fun d6 =>
       ogd d6
        (some (.bool false))
        (ob (dLen (proj 14 x0)) fun d7 =>
        ob (dLen (proj 14 x1)) fun d8 =>
        ob (dBin .neq d7 d8) fun d9 =>
        ogd d9
         (some (.bool false))
         (ob (dLen (proj 15 x0)) fun d10 =>
         ob (dLen (proj 15 x1)) fun d11 =>
         ob (dBin .neq d10 d11) fun d12 =>
         oif d12
          (some (.bool false))
          (P_r05_Same_3 R x0 x1))
         none)
        none)
       none)
      none)
     none)
    none)
   none) := evP_of [3] (by kernel_rfl)
theorem eq_r05_Same_3 (R : Orc) (b2 : DV) (b3 : DV) : P_r05_Same_3 R b2 b3 =
  (ob (R.p F_r03_Same [(.agg [(proj 8 b2), (proj 9 b2), (proj 10 b2)]), (.agg [(proj 8 b3), (proj 9 b3), (proj 10 b3)])]) fun d1 =>
  ob (dUn .not d1) fun d2 =>
  ogd d2
   (some (.bool false))
   (ob (R.p F_r03_Same [(.agg [(proj 11 b2), (proj 12 b2), (proj 13 b2)]), (.agg [(proj 11 b3), (proj 12 b3), (proj 13 b3)])]) fun d3 =>
   ob (dUn .not d3) fun d4 =>
   oif d4
    (some (.bool false))
    (P_r05_Same_6h R (.int .i64 0) b2 b3))
   none) := evP_of [3] (by kernel_rfl)
theorem eq_r05_Same_6h (R : Orc) (t5 : DV) (b2 : DV) (b3 : DV) : P_r05_Same_6h R t5 b2 b3 =
  (ob (dLen (proj 14 b2)) fun d1 =>
  ob (dBin .lss t5 d1) fun d2 =>
  oif d2
   (ob (dIdx 7 (proj 14 b2) t5) fun d3 =>
   ob (dIdx 7 (proj 14 b3) t5) fun d4 =>
   ob (R.p F_r05_SamePat [(.agg [(proj 0 d3), (proj 1 d3), (proj 2 d3), (proj 3 d3), (proj 4 d3), (proj 5 d3), (proj 6 d3)]), (.agg [(proj 0 d4), (proj 1 d4), (proj 2 d4), (proj 3 d4), (proj 4 d4), (proj 5 d4), (proj 6 d4)])]) fun d5 =>
   ob (dUn .not d5) fun d6 =>
   oif d6
    (some (.bool false))
    (ob (dBin .add t5 (.int .i64 1)) fun d7 =>
    P_r05_Same_6h R d7 b2 b3))
   (P_r05_Same_11h R (.int .i64 0) b2 b3)) := headP_of [3] (by kernel_rfl)
theorem eq_r05_Same_11h (R : Orc) (t6 : DV) (b2 : DV) (b3 : DV) : P_r05_Same_11h R t6 b2 b3 =
  (ob (dLen (proj 15 b2)) fun d1 =>
  ob (dBin .lss t6 d1) fun d2 =>
  oif d2
   (ob (dIdx 16 (proj 15 b2) t6) fun d3 =>
   ob (dIdx 16 (proj 15 b3) t6) fun d4 =>
   ob (R.p F_r05_Same [(.agg [(proj 0 d3), (proj 1 d3), (proj 2 d3), (proj 3 d3), (proj 4 d3), (proj 5 d3), (proj 6 d3), (proj 7 d3), (proj 8 d3), (proj 9 d3), (proj 10 d3), (proj 11 d3), (proj 12 d3), (proj 13 d3), (proj 14 d3), (proj 15 d3)]), (.agg [(proj 0 d4), (proj 1 d4), (proj 2 d4), (proj 3 d4), (proj 4 d4), (proj 5 d4), (proj 6 d4), (proj 7 d4), (proj 8 d4), (proj 9 d4), (proj 10 d4), (proj 11 d4), (proj 12 d4), (proj 13 d4), (proj 14 d4), (proj 15 d4)])]) fun d5 =>
   ob (dUn .not d5) fun d6 =>
   oif d6
    (some (.bool false))
    (ob (dBin .add t6 (.int .i64 1)) fun d7 =>
    P_r05_Same_11h R d7 b2 b3))
   (some (.bool true))) := headP_of [3] (by kernel_rfl)
theorem call_r05_Same (x0 : DV) (x1 : DV) {d : DV} (h : P_r05_Same (run cfg) x0 x1 = some d) : (run cfg).p F_r05_Same [x0, x1] = some d :=
  run_pure (fn := Tryz.f62) (c := code_r05_Same) (by kernel_rfl) Tryz.func62 (by kernel_rfl) ((show _ = P_r05_Same (run cfg) x0 x1 by kernel_rfl).trans h)

/-! ### l17_weigh -/
noncomputable def code_l17_weigh : Code := Tryz.f64.body.getD .skip
noncomputable def P_l17_weigh (R : Orc) (x0 : DV) (x1 : DV) : Option DV := evP cfg R fl_l17_weigh (retP cfg.P Tryz.f64) [] code_l17_weigh (initSt Tryz.f64 [(x0, .val), (x1, .val)] [])
noncomputable def P_l17_weigh_5h (R : Orc) (t1 : DV) (t5 : DV) (b2 : DV) : Option DV := headP cfg R fl_l17_weigh (retP cfg.P Tryz.f64) [true, true, true, false, true, false] code_l17_weigh ⟨spread .undef 99 0 [(1, t1), (5, t5)], spread .val 99 0 [(2, (.loc 2 0))], spread none 99 0 [(2, some [((proj 0 b2), .val), ((proj 1 b2), .val), ((proj 2 b2), .val), ((proj 3 b2), .val), ((proj 4 b2), .val), ((proj 5 b2), .val), ((proj 6 b2), .val), ((proj 7 b2), .val), ((proj 8 b2), .val), ((proj 9 b2), .val), ((proj 10 b2), .val), ((proj 11 b2), .val), ((proj 12 b2), .val), ((proj 13 b2), .val), ((proj 14 b2), .val), ((proj 15 b2), .val), ((proj 16 b2), .val), ((proj 17 b2), .val), ((proj 18 b2), .val), ((proj 19 b2), .val)])], []⟩
noncomputable def P_l17_weigh_11h (R : Orc) (t1 : DV) (t6 : DV) (b2 : DV) : Option DV := headP cfg R fl_l17_weigh (retP cfg.P Tryz.f64) [true, true, true, true, false, true, false] code_l17_weigh ⟨spread .undef 99 0 [(1, t1), (6, t6)], spread .val 99 0 [(2, (.loc 2 0))], spread none 99 0 [(2, some [((proj 0 b2), .val), ((proj 1 b2), .val), ((proj 2 b2), .val), ((proj 3 b2), .val), ((proj 4 b2), .val), ((proj 5 b2), .val), ((proj 6 b2), .val), ((proj 7 b2), .val), ((proj 8 b2), .val), ((proj 9 b2), .val), ((proj 10 b2), .val), ((proj 11 b2), .val), ((proj 12 b2), .val), ((proj 13 b2), .val), ((proj 14 b2), .val), ((proj 15 b2), .val), ((proj 16 b2), .val), ((proj 17 b2), .val), ((proj 18 b2), .val), ((proj 19 b2), .val)])], []⟩
noncomputable def P_l17_weigh_15h (R : Orc) (t1 : DV) (t7 : DV) (b2 : DV) : Option DV := headP cfg R fl_l17_weigh (retP cfg.P Tryz.f64) [true, true, true, true, true, false, true, false] code_l17_weigh ⟨spread .undef 99 0 [(1, t1), (7, t7)], spread .val 99 0 [(2, (.loc 2 0))], spread none 99 0 [(2, some [((proj 0 b2), .val), ((proj 1 b2), .val), ((proj 2 b2), .val), ((proj 3 b2), .val), ((proj 4 b2), .val), ((proj 5 b2), .val), ((proj 6 b2), .val), ((proj 7 b2), .val), ((proj 8 b2), .val), ((proj 9 b2), .val), ((proj 10 b2), .val), ((proj 11 b2), .val), ((proj 12 b2), .val), ((proj 13 b2), .val), ((proj 14 b2), .val), ((proj 15 b2), .val), ((proj 16 b2), .val), ((proj 17 b2), .val), ((proj 18 b2), .val), ((proj 19 b2), .val)])], []⟩
set_option maxRecDepth 100000 in
theorem eq_l17_weigh (R : Orc) (x0 : DV) (x1 : DV) : P_l17_weigh R x0 x1 =
  (og (isAggN 20 x0) <|
  ob (dBin .add x1 (.int .i64 1)) fun d1 =>
  ob (dLen (proj 10 x0)) fun d2 =>
  ob (dBin .add d1 d2) fun d3 =>
  ob (dLenS (proj 6 x0)) fun d4 =>
  ob (dBin .gtr d4 (.int .i64 300)) fun d5 =>
  ogd d5
   (some (.int .i64 501))
   (ob (dLenS (proj 3 x0)) fun d6 =>
   ob (dBin .gtr d6 (.int .i64 300)) fun d7 =>
   ogd d7
    (some (.int .i64 501))
    (ob (dLenS (proj 4 x0)) fun d8 =>
    ob (dBin .gtr d8 (.int .i64 300)) fun d9 =>
    ogd d9
     (some (.int .i64 501))
     (ob (R.p F_l17_light [(.agg [(proj 11 x0), (proj 12 x0), (proj 13 x0)])]) fun d10 =>
     ob (dUn .not d10) fun d11 =>
     ogd d11
      (some (.int .i64 501))
      (ob (R.p F_l17_light [(.agg [(proj 14 x0), (proj 15 x0), (proj 16 x0)])]) fun d12 =>
      ob (dUn .not d12) fun d13 =>
      oif d13
       (some (.int .i64 501))
       (P_l17_weigh_5h R d3 (.int .i64 0) x0))
      none)
     none)
    none)
   none) := evP_of [] (by kernel_rfl)
theorem eq_l17_weigh_5h (R : Orc) (t1 : DV) (t5 : DV) (b2 : DV) : P_l17_weigh_5h R t1 t5 b2 =
  (ob (dLen (proj 17 b2)) fun d1 =>
  ob (dBin .lss t5 d1) fun d2 =>
  ogd d2
   (ob (dBin .leq t1 (.int .i64 500)) fun d3 =>
   oif d3
    (ob (dBin .add t1 (.int .i64 1)) fun d4 =>
    ob (dIdx 3 (proj 17 b2) t5) fun d5 =>
    ob (R.p F_l17_light [(.agg [(proj 0 d5), (proj 1 d5), (proj 2 d5)])]) fun d6 =>
    ob (dUn .not d6) fun d7 =>
    oif d7
     (some (.int .i64 501))
     (ob (dBin .add t5 (.int .i64 1)) fun d8 =>
     P_l17_weigh_5h R d4 d8 b2))
    (P_l17_weigh_11h R t1 (.int .i64 0) b2))
   (P_l17_weigh_11h R t1 (.int .i64 0) b2)
   none) := headP_of [] (by kernel_rfl)
theorem eq_l17_weigh_11h (R : Orc) (t1 : DV) (t6 : DV) (b2 : DV) : P_l17_weigh_11h R t1 t6 b2 =
  (ob (dLen (proj 18 b2)) fun d1 =>
  ob (dBin .lss t6 d1) fun d2 =>
  ogd d2
   (ob (dBin .leq t1 (.int .i64 500)) fun d3 =>
   oif d3
    (ob (dIdx 7 (proj 18 b2) t6) fun d4 =>
    ob (R.p F_l17_weighPat [(.agg [(proj 0 d4), (proj 1 d4), (proj 2 d4), (proj 3 d4), (proj 4 d4), (proj 5 d4), (proj 6 d4)]), t1]) fun d5 =>
    ob (dBin .add t6 (.int .i64 1)) fun d6 =>
    P_l17_weigh_11h R d5 d6 b2)
    (P_l17_weigh_15h R t1 (.int .i64 0) b2))
   (P_l17_weigh_15h R t1 (.int .i64 0) b2)
   none) := headP_of [] (by kernel_rfl)
theorem eq_l17_weigh_15h (R : Orc) (t1 : DV) (t7 : DV) (b2 : DV) : P_l17_weigh_15h R t1 t7 b2 =
  (ob (dLen (proj 19 b2)) fun d1 =>
  ob (dBin .lss t7 d1) fun d2 =>
  ogd d2
   (ob (dBin .leq t1 (.int .i64 500)) fun d3 =>
   oif d3
    (ob (dIdx 20 (proj 19 b2) t7) fun d4 =>
    ob (R.p F_l17_weigh [(.agg [(proj 0 d4), (proj 1 d4), (proj 2 d4), (proj 3 d4), (proj 4 d4), (proj 5 d4), (proj 6 d4), (proj 7 d4), (proj 8 d4), (proj 9 d4), (proj 10 d4), (proj 11 d4), (proj 12 d4), (proj 13 d4), (proj 14 d4), (proj 15 d4), (proj 16 d4), (proj 17 d4), (proj 18 d4), (proj 19 d4)]), t1]) fun d5 =>
    ob (dBin .add t7 (.int .i64 1)) fun d6 =>
    P_l17_weigh_15h R d5 d6 b2)
    (some t1))
   (some t1)
   none) := headP_of [] (by kernel_rfl)
theorem call_l17_weigh (x0 : DV) (x1 : DV) {d : DV} (h : P_l17_weigh (run cfg) x0 x1 = some d) : (run cfg).p F_l17_weigh [x0, x1] = some d :=
  run_pure (fn := Tryz.f64) (c := code_l17_weigh) (by kernel_rfl) Tryz.func64 (by kernel_rfl) ((show _ = P_l17_weigh (run cfg) x0 x1 by kernel_rfl).trans h)

/-! ### r17_bulk -/
noncomputable def code_r17_bulk : Code := Tryz.f65.body.getD .skip
noncomputable def P_r17_bulk (R : Orc) (x0 : Nat) (x1 : DV) (x2 : DV) (sg : List SObj) : Option (List DV × List SObj) := evP cfg R fl_r17_bulk (retR cfg.P Tryz.f65 sig_r17_bulk) [] code_r17_bulk (initSt Tryz.f65 [(.undef, (.ptr x0 0)), (x1, .val), (x2, .val)] sg)
noncomputable def P_r17_bulk_5h (R : Orc) (t0i : Nat) (t2 : DV) (t7 : DV) (t8 : DV) (b4 : DV) (sg : List SObj) : Option (List DV × List SObj) := headP cfg R fl_r17_bulk (retR cfg.P Tryz.f65 sig_r17_bulk) [true, true, true, false, true, false] code_r17_bulk ⟨spread .undef 200 0 [(2, t2), (7, t7), (8, t8)], spread .val 200 0 [(0, (.ptr t0i 0)), (4, (.loc 4 0)), (7, .own)], spread none 200 0 [(4, some [((proj 0 b4), .val), ((proj 1 b4), .val), ((proj 2 b4), .val), ((proj 3 b4), .val), ((proj 4 b4), .val), ((proj 5 b4), .val), ((proj 6 b4), .val), ((proj 7 b4), .val), ((proj 8 b4), .val), ((proj 9 b4), .val), ((proj 10 b4), .val), ((proj 11 b4), .val), ((proj 12 b4), .val), ((proj 13 b4), .val), ((proj 14 b4), .val), ((proj 15 b4), .val), ((proj 16 b4), .val), ((proj 17 b4), .val), ((proj 18 b4), .val), ((proj 19 b4), .val)])], sg⟩
noncomputable def P_r17_bulk_22 (R : Orc) (t0i : Nat) (t2 : DV) (t7 : DV) (t8 : DV) (t9 : DV) (b4 : DV) (sg : List SObj) : Option (List DV × List SObj) := evP cfg R fl_r17_bulk (retR cfg.P Tryz.f65 sig_r17_bulk) [true, true, true, false, true, false, false, true, false, false, true, true] code_r17_bulk ⟨spread .undef 200 0 [(2, t2), (7, t7), (8, t8), (9, t9)], spread .val 200 0 [(0, (.ptr t0i 0)), (4, (.loc 4 0)), (7, .own)], spread none 200 0 [(4, some [((proj 0 b4), .val), ((proj 1 b4), .val), ((proj 2 b4), .val), ((proj 3 b4), .val), ((proj 4 b4), .val), ((proj 5 b4), .val), ((proj 6 b4), .val), ((proj 7 b4), .val), ((proj 8 b4), .val), ((proj 9 b4), .val), ((proj 10 b4), .val), ((proj 11 b4), .val), ((proj 12 b4), .val), ((proj 13 b4), .val), ((proj 14 b4), .val), ((proj 15 b4), .val), ((proj 16 b4), .val), ((proj 17 b4), .val), ((proj 18 b4), .val), ((proj 19 b4), .val)])], sg⟩
noncomputable def P_r17_bulk_12 (R : Orc) (t0i : Nat) (t2 : DV) (t7 : DV) (t8 : DV) (t9 : DV) (b4 : DV) (sg : List SObj) : Option (List DV × List SObj) := evP cfg R fl_r17_bulk (retR cfg.P Tryz.f65 sig_r17_bulk) [true, true, true, false, true, false, false, true, false, false, true, false, false, true, true, true, true] code_r17_bulk ⟨spread .undef 200 0 [(2, t2), (7, t7), (8, t8), (9, t9)], spread .val 200 0 [(0, (.ptr t0i 0)), (4, (.loc 4 0)), (7, .own)], spread none 200 0 [(4, some [((proj 0 b4), .val), ((proj 1 b4), .val), ((proj 2 b4), .val), ((proj 3 b4), .val), ((proj 4 b4), .val), ((proj 5 b4), .val), ((proj 6 b4), .val), ((proj 7 b4), .val), ((proj 8 b4), .val), ((proj 9 b4), .val), ((proj 10 b4), .val), ((proj 11 b4), .val), ((proj 12 b4), .val), ((proj 13 b4), .val), ((proj 14 b4), .val), ((proj 15 b4), .val), ((proj 16 b4), .val), ((proj 17 b4), .val), ((proj 18 b4), .val), ((proj 19 b4), .val)])], sg⟩
noncomputable def P_r17_bulk_25h (R : Orc) (t0i : Nat) (t2 : DV) (t7 : DV) (t12 : DV) (t13 : DV) (b4 : DV) (sg : List SObj) : Option (List DV × List SObj) := headP cfg R fl_r17_bulk (retR cfg.P Tryz.f65 sig_r17_bulk) [true, true, true, true, true, false, true, false] code_r17_bulk ⟨spread .undef 200 0 [(2, t2), (7, t7), (12, t12), (13, t13)], spread .val 200 0 [(0, (.ptr t0i 0)), (4, (.loc 4 0))], spread none 200 0 [(4, some [((proj 0 b4), .val), ((proj 1 b4), .val), ((proj 2 b4), .val), ((proj 3 b4), .val), ((proj 4 b4), .val), ((proj 5 b4), .val), ((proj 6 b4), .val), ((proj 7 b4), .val), ((proj 8 b4), .val), ((proj 9 b4), .val), ((proj 10 b4), .val), ((proj 11 b4), .val), ((proj 12 b4), .val), ((proj 13 b4), .val), ((proj 14 b4), .val), ((proj 15 b4), .val), ((proj 16 b4), .val), ((proj 17 b4), .val), ((proj 18 b4), .val), ((proj 19 b4), .val)])], sg⟩
noncomputable def P_r17_bulk_19h (R : Orc) (t0i : Nat) (t2 : DV) (t7 : DV) (t8 : DV) (t9 : DV) (t10 : DV) (t11 : DV) (b4 : DV) (sg : List SObj) : Option (List DV × List SObj) := headP cfg R fl_r17_bulk (retR cfg.P Tryz.f65 sig_r17_bulk) [true, true, true, false, true, false, false, true, false, false, true, false, false, true, true, true, true, true, true, true, false, true, true, false] code_r17_bulk ⟨spread .undef 200 0 [(2, t2), (7, t7), (8, t8), (9, t9), (10, t10), (11, t11)], spread .val 200 0 [(0, (.ptr t0i 0)), (4, (.loc 4 0)), (7, .own)], spread none 200 0 [(4, some [((proj 0 b4), .val), ((proj 1 b4), .val), ((proj 2 b4), .val), ((proj 3 b4), .val), ((proj 4 b4), .val), ((proj 5 b4), .val), ((proj 6 b4), .val), ((proj 7 b4), .val), ((proj 8 b4), .val), ((proj 9 b4), .val), ((proj 10 b4), .val), ((proj 11 b4), .val), ((proj 12 b4), .val), ((proj 13 b4), .val), ((proj 14 b4), .val), ((proj 15 b4), .val), ((proj 16 b4), .val), ((proj 17 b4), .val), ((proj 18 b4), .val), ((proj 19 b4), .val)])], sg⟩
theorem eq_r17_bulk (R : Orc) (x0 : Nat) (x1 : DV) (x2 : DV) (sg : List SObj) : P_r17_bulk R x0 x1 x2 sg =
  (og (isAggN 20 x1) <|
  ob (sgBox sg x0) fun c1 =>
  ob (cellDat c1 0) fun d2 =>
  oif d2
   (some ([(.int .i64 1)], sg))
   (P_r17_bulk_5h R x0 x2 (.list 1 []) (.int .i64 0) x1 sg)) := evP_of [12, 22] (by kernel_rfl)
theorem eq_r17_bulk_5h (R : Orc) (t0i : Nat) (t2 : DV) (t7 : DV) (t8 : DV) (b4 : DV) (sg : List SObj) : P_r17_bulk_5h R t0i t2 t7 t8 b4 sg =
  (ob (dLen (proj 19 b4)) fun d1 =>
  ob (dBin .lss t8 d1) fun d2 =>
  oif d2
   (ob (dBin .eql (proj 0 b4) (.int .i64 9)) fun d3 =>
   oif d3
    (ob (R.p F_r03_Size [(.agg [(proj 11 b4), (proj 12 b4), (proj 13 b4)])]) fun d4 =>
    ob (R.r F_r16_Bulk_Of [(.undef, (.ptr t0i 0)), (d4, .val)] sg) fun q5 =>
    ob (R.p F_r17_more [t2, (proj 3 b4), (q5.1.getD 0 .undef)]) fun d6 =>
    P_r17_bulk_22 R t0i t2 t7 t8 d6 b4 q5.2)
    (ob (dBin .eql (proj 0 b4) (.int .i64 11)) fun d7 =>
    ogd d7
     (ob (dBin .eql t8 (.int .i64 1)) fun d8 =>
     oif d8
      (ob (dIdx 1 t7 (.int .i64 0)) fun d9 =>
      og (isLeaf d9) <|
      ob (R.p F_r17_more [t2, (proj 3 b4), d9]) fun d10 =>
      P_r17_bulk_22 R t0i t2 t7 t8 d10 b4 sg)
      (P_r17_bulk_12 R t0i t2 t7 t8 t2 b4 sg))
     (P_r17_bulk_12 R t0i t2 t7 t8 t2 b4 sg)
     none))
   (P_r17_bulk_25h R t0i t2 t7 (.int .i64 1) (.int .i64 0) b4 sg)) := headP_of [12, 22] (by kernel_rfl)
theorem eq_r17_bulk_22 (R : Orc) (t0i : Nat) (t2 : DV) (t7 : DV) (t8 : DV) (t9 : DV) (b4 : DV) (sg : List SObj) : P_r17_bulk_22 R t0i t2 t7 t8 t9 b4 sg =
  (ob (dIdx 20 (proj 19 b4) t8) fun d1 =>
  ob (R.r F_r17_bulk [(.undef, (.ptr t0i 0)), ((.agg [(proj 0 d1), (proj 1 d1), (proj 2 d1), (proj 3 d1), (proj 4 d1), (proj 5 d1), (proj 6 d1), (proj 7 d1), (proj 8 d1), (proj 9 d1), (proj 10 d1), (proj 11 d1), (proj 12 d1), (proj 13 d1), (proj 14 d1), (proj 15 d1), (proj 16 d1), (proj 17 d1), (proj 18 d1), (proj 19 d1)]), .val), (t9, .val)] sg) fun q2 =>
  og (isCell (q2.1.getD 0 .undef)) <|
  ob (dApp 1 t7 (.list 1 [(q2.1.getD 0 .undef)])) fun d3 =>
  ob (dBin .add t8 (.int .i64 1)) fun d4 =>
  P_r17_bulk_5h R t0i t2 d3 d4 b4 q2.2) := evP_of [12, 22] (by kernel_rfl)
set_option maxRecDepth 100000 in
theorem eq_r17_bulk_12 (R : Orc) (t0i : Nat) (t2 : DV) (t7 : DV) (t8 : DV) (t9 : DV) (b4 : DV) (sg : List SObj) : P_r17_bulk_12 R t0i t2 t7 t8 t9 b4 sg =
  (ob (dBin .eql (proj 0 b4) (.int .i64 12)) fun d1 =>
  oif d1
   (ob (R.p F_r03_Size [(.agg [(proj 11 b4), (proj 12 b4), (proj 13 b4)])]) fun d2 =>
   ob (R.p F_r03_Size [(.agg [(proj 14 b4), (proj 15 b4), (proj 16 b4)])]) fun d3 =>
   ob (dBin .add d2 d3) fun d4 =>
   ob (dBin .add d4 (.int .i64 1)) fun d5 =>
   ob (R.r F_r16_Bulk_Of [(.undef, (.ptr t0i 0)), (d5, .val)] sg) fun q6 =>
   ob (R.p F_r17_more [t2, (proj 3 b4), (q6.1.getD 0 .undef)]) fun d7 =>
   ob (dBin .eql t8 (.int .i64 0)) fun d8 =>
   oif d8
    (ob (R.p F_r03_Size [(.agg [(proj 11 b4), (proj 12 b4), (proj 13 b4)])]) fun d9 =>
    ob (R.r F_r16_Bulk_Of [(.undef, (.ptr t0i 0)), (d9, .val)] q6.2) fun q10 =>
    ob (R.p F_r17_more [d7, (proj 4 b4), (q10.1.getD 0 .undef)]) fun d11 =>
    P_r17_bulk_22 R t0i t2 t7 t8 d11 b4 q10.2)
    (P_r17_bulk_22 R t0i t2 t7 t8 d7 b4 q6.2))
   (ob (dBin .eql (proj 0 b4) (.int .i64 14)) fun d12 =>
   ogd d12
    (ob (dBin .gtr t8 (.int .i64 0)) fun d13 =>
    ogd d13
     (ob (dLen (proj 18 b4)) fun d14 =>
     ob (dBin .leq t8 d14) fun d15 =>
     oif d15
      (ob (dBin .sub t8 (.int .i64 1)) fun d16 =>
      ob (dIdx 7 (proj 18 b4) d16) fun d17 =>
      ob (R.p F_r05_Names [(.agg [(proj 0 d17), (proj 1 d17), (proj 2 d17), (proj 3 d17), (proj 4 d17), (proj 5 d17), (proj 6 d17)])]) fun d18 =>
      P_r17_bulk_19h R t0i t2 t7 t8 t9 d18 (.int .i64 0) b4 sg)
      (P_r17_bulk_22 R t0i t2 t7 t8 t9 b4 sg))
     (P_r17_bulk_22 R t0i t2 t7 t8 t9 b4 sg)
     none)
    (P_r17_bulk_22 R t0i t2 t7 t8 t9 b4 sg)
    none)) := evP_of [12, 22] (by kernel_rfl)
set_option maxRecDepth 100000 in
theorem eq_r17_bulk_25h (R : Orc) (t0i : Nat) (t2 : DV) (t7 : DV) (t12 : DV) (t13 : DV) (b4 : DV) (sg : List SObj) : P_r17_bulk_25h R t0i t2 t7 t12 t13 b4 sg =
  (ob (dLen t7) fun d1 =>
  ob (dBin .lss t13 d1) fun d2 =>
  oif d2
   (ob (dIdx 1 t7 t13) fun d3 =>
   og (isLeaf d3) <|
   ob (dMax t12 d3) fun d4 =>
   ob (dBin .add t13 (.int .i64 1)) fun d5 =>
   P_r17_bulk_25h R t0i t2 t7 d4 d5 b4 sg)
   (ob (dBin .eql (proj 0 b4) (.int .i64 1)) fun d6 =>
   oif d6
    (ob (R.r F_r16_Bulk_Named [(.undef, (.ptr t0i 0)), (t2, .val), ((proj 3 b4), .val), ((proj 17 b4), .val)] sg) fun q7 =>
    some ([(q7.1.getD 0 .undef)], q7.2))
    (ob (dBin .eql (proj 0 b4) (.int .i64 7)) fun d8 =>
    oif d8
     (ob (R.p F_r03_Size [(.agg [(proj 11 b4), (proj 12 b4), (proj 13 b4)])]) fun d9 =>
     ob (dBin .add d9 (.int .i64 1)) fun d10 =>
     ob (R.r F_r16_Bulk_Of [(.undef, (.ptr t0i 0)), (d10, .val)] sg) fun q11 =>
     some ([(q11.1.getD 0 .undef)], q11.2))
     (ob (dBin .eql (proj 0 b4) (.int .i64 6)) fun d12 =>
     oif d12
      (ob (dIdx 1 t7 (.int .i64 0)) fun d13 =>
      og (isLeaf d13) <|
      ob (dIdx 1 t7 (.int .i64 1)) fun d14 =>
      og (isLeaf d14) <|
      ob (dBin .add d13 d14) fun d15 =>
      ob (dBin .add d15 (.int .i64 1)) fun d16 =>
      ob (R.r F_r16_Bulk_Of [(.undef, (.ptr t0i 0)), (d16, .val)] sg) fun q17 =>
      some ([(q17.1.getD 0 .undef)], q17.2))
      (ob (dBin .eql (proj 0 b4) (.int .i64 8)) fun d18 =>
      oif d18
       (ob (dBin .add t12 (.int .i64 1)) fun d19 =>
       ob (R.r F_r16_Bulk_Of [(.undef, (.ptr t0i 0)), (d19, .val)] sg) fun q20 =>
       some ([(q20.1.getD 0 .undef)], q20.2))
       (ob (dBin .eql (proj 0 b4) (.int .i64 9)) fun d21 =>
       oif d21
        (ob (R.p F_r03_Size [(.agg [(proj 11 b4), (proj 12 b4), (proj 13 b4)])]) fun d22 =>
        ob (dBin .add d22 (.int .i64 1)) fun d23 =>
        ob (dIdx 1 t7 (.int .i64 0)) fun d24 =>
        og (isLeaf d24) <|
        ob (dBin .add d23 d24) fun d25 =>
        ob (R.r F_r16_Bulk_Of [(.undef, (.ptr t0i 0)), (d25, .val)] sg) fun q26 =>
        some ([(q26.1.getD 0 .undef)], q26.2))
        (ob (dBin .eql (proj 0 b4) (.int .i64 16)) fun d27 =>
        oif d27
         (ob (R.p F_r03_Size [(.agg [(proj 14 b4), (proj 15 b4), (proj 16 b4)])]) fun d28 =>
         ob (R.r F_r16_Bulk_Of [(.undef, (.ptr t0i 0)), (d28, .val)] sg) fun q29 =>
         some ([(q29.1.getD 0 .undef)], q29.2))
         (some ([t12], sg))))))))) := headP_of [12, 22] (by kernel_rfl)
theorem eq_r17_bulk_19h (R : Orc) (t0i : Nat) (t2 : DV) (t7 : DV) (t8 : DV) (t9 : DV) (t10 : DV) (t11 : DV) (b4 : DV) (sg : List SObj) : P_r17_bulk_19h R t0i t2 t7 t8 t9 t10 t11 b4 sg =
  (ob (dLen t10) fun d1 =>
  ob (dBin .lss t11 d1) fun d2 =>
  oif d2
   (ob (dIdx 1 t10 t11) fun d3 =>
   og (isLeaf d3) <|
   ob (dIdx 1 t7 (.int .i64 0)) fun d4 =>
   og (isLeaf d4) <|
   ob (R.p F_r17_more [t9, d3, d4]) fun d5 =>
   ob (dBin .add t11 (.int .i64 1)) fun d6 =>
   P_r17_bulk_19h R t0i t2 t7 t8 d5 t10 d6 b4 sg)
   (P_r17_bulk_22 R t0i t2 t7 t8 t9 b4 sg)) := headP_of [12, 22] (by kernel_rfl)
theorem call_r17_bulk (x0 : Nat) (x1 : DV) (x2 : DV) (sg : List SObj) {q : List DV × List SObj} (h : P_r17_bulk (run cfg) x0 x1 x2 sg = some q) : (run cfg).r F_r17_bulk [(.undef, (.ptr x0 0)), (x1, .val), (x2, .val)] sg = some q :=
  run_raw (s := sig_r17_bulk) (fn := Tryz.f65) (c := code_r17_bulk) (by kernel_rfl) Tryz.func65 (by kernel_rfl) ((show _ = P_r17_bulk (run cfg) x0 x1 x2 sg by kernel_rfl).trans h)

/-! ### term_Check -/
noncomputable def code_term_Check : Code := Tryz.f66.body.getD .skip
noncomputable def P_term_Check (R : Orc) (x0 : DV) : Option DV := evP cfg R fl_term_Check (retP cfg.P Tryz.f66) [] code_term_Check (initSt Tryz.f66 [(x0, .val)] [])
theorem eq_term_Check (R : Orc) (x0 : DV) : P_term_Check R x0 =
  (og (isAggN 20 x0) <|
  ob (R.p F_term_right [(.agg [(proj 0 x0), (proj 1 x0), (proj 2 x0), (proj 3 x0), (proj 4 x0), (proj 5 x0), (proj 6 x0), (proj 7 x0), (proj 8 x0), (proj 9 x0), (proj 10 x0), (proj 11 x0), (proj 12 x0), (proj 13 x0), (proj 14 x0), (proj 15 x0), (proj 16 x0), (proj 17 x0), (proj 18 x0), (proj 19 x0)])]) fun d1 =>
  ob (dUn .not d1) fun d2 =>
  oif d2
   (some (.int .i64 1))
   (some (.int .i64 0))) := evP_of [] (by kernel_rfl)
theorem call_term_Check (x0 : DV) {d : DV} (h : P_term_Check (run cfg) x0 = some d) : (run cfg).p F_term_Check [x0] = some d :=
  run_pure (fn := Tryz.f66) (c := code_term_Check) (by kernel_rfl) Tryz.func66 (by kernel_rfl) ((show _ = P_term_Check (run cfg) x0 by kernel_rfl).trans h)

end Go.Su
