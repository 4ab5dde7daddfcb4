/-
  Parts of the proof, merged: G2, G3, G4, G5, G6, T0.
-/
import Derived.Test.YtgnkfmhkboliiaaP4
set_option linter.unusedVariables false
set_option linter.unusedSimpArgs false
/-
  Equations of the program's functions: by program.
-/
namespace Go.Su
open Go.Proofs
set_option linter.unusedVariables false

noncomputable def code_tree_Check : Code := Try.f15.body.getD .skip
noncomputable def P_tree_Check (R : Orc) (x0 : DV) : Option DV := evP cfg R fl_tree_Check (retP cfg.P Try.f15) [] code_tree_Check (initSt Try.f15 [(x0, .val)] [])
noncomputable def P_tree_Check_r0 (R : Orc) (t0 : DV) (t4 : DV) (sg : List SObj) : Option DV := evP cfg R fl_tree_Check (retP cfg.P Try.f15) [true, false, true, false] code_tree_Check ⟨spread .undef 10 0 [(0, t0), (3, (.tup [])), (4, t4), (6, (.tup [])), (7, (.tup [])), (8, (.tup [])), (9, (.tup []))], spread .val 10 0 [(1, (.ptr 0 0)), (2, (.ptr 1 0)), (5, (.fn 55 [(2, 0)]))], spread none 10 0 [], sg⟩
noncomputable def rcode_tree_Check_r0 : Code := match (sub [true, false, true, false] code_tree_Check []).1 with
  | .rangeFunc _ _ a b => .seq a b
  | c => c
noncomputable def X_tree_Check_r0 (R : Orc) (t0 : DV) (t4 : DV) (o : Out) (sg : List SObj) : Option DV := konP cfg R fl_tree_Check (retP cfg.P Try.f15) [true, false, true, false] code_tree_Check o (outerSt ⟨spread .undef 10 0 [(0, t0), (3, (.tup [])), (4, t4), (6, (.tup [])), (7, (.tup [])), (8, (.tup [])), (9, (.tup []))], spread .val 10 0 [(1, (.ptr 0 0)), (2, (.ptr 1 0)), (5, (.fn 55 [(2, 0)]))], spread none 10 0 [], []⟩ sg)
noncomputable def B_tree_Check_r0 (R : Orc) (t0 : DV) (t4 : DV) (I : List SObj → Option DV) (x : DV) (sg : List SObj) : Option DV := evP cfg R fl_tree_Check (kr I (X_tree_Check_r0 R t0 t4)) [] rcode_tree_Check_r0 ⟨spread .undef 10 0 [(6, x)], spread .val 10 0 [(2, (.ptr 1 0))], spread none 10 0 [], sg⟩
noncomputable def I_tree_Check_r0 (R : Orc) (t0 : DV) (t4 : DV) : List DV → List SObj → Option DV := foldIt (fun x I sg => B_tree_Check_r0 R t0 t4 I x sg) (X_tree_Check_r0 R t0 t4 .normal)
theorem eq_tree_Check (R : Orc) (x0 : DV) : P_tree_Check R x0 =
  (og (isAggN 16 x0) <|
  P_tree_Check_r0 R x0 (.agg [(proj 0 x0), (proj 1 x0), (proj 2 x0), (proj 3 x0), (proj 4 x0), (proj 5 x0), (proj 6 x0), (proj 7 x0), (proj 8 x0), (proj 9 x0), (proj 10 x0), (proj 11 x0), (proj 12 x0), (proj 13 x0), (proj 14 x0), (proj 15 x0)]) [SObj.box [((proj 0 x0), .val), ((proj 1 x0), .val), ((proj 2 x0), .val), ((proj 3 x0), .val), ((proj 4 x0), .val), ((proj 5 x0), .val), ((proj 6 x0), .val), ((proj 7 x0), .val), ((proj 8 x0), .val), ((proj 9 x0), .val), ((proj 10 x0), .val), ((proj 11 x0), .val), ((proj 12 x0), .val), ((proj 13 x0), .val), ((proj 14 x0), .val), ((proj 15 x0), .val)], SObj.box [((.int .i64 0), .val)], SObj.box [((proj 0 x0), .val), ((proj 1 x0), .val), ((proj 2 x0), .val), ((proj 3 x0), .val), ((proj 4 x0), .val), ((proj 5 x0), .val), ((proj 6 x0), .val), ((proj 7 x0), .val), ((proj 8 x0), .val), ((proj 9 x0), .val), ((proj 10 x0), .val), ((proj 11 x0), .val), ((proj 12 x0), .val), ((proj 13 x0), .val), ((proj 14 x0), .val), ((proj 15 x0), .val)]]) := evP_of [] (by kernel_rfl)
theorem eq_tree_Check_r0 (R : Orc) (t0 : DV) (t4 : DV) (sg : List SObj) : P_tree_Check_r0 R t0 t4 sg =
  ob (sgBox sg 2) fun cs => ob (allDat cs) fun cd => ob (flatD 16 15 cd) fun ds => I_tree_Check_r0 R t0 t4 ds (sg.set 2 (.arr 1 [])) :=
  (rangeP2 (t := 5) (f := 55) (i := 2) (q := 6) (it := flatD 16 15) (by kernel_rfl) (by kernel_rfl) (by kernel_rfl) (by kernel_rfl)).trans (by kernel_rfl)
theorem I_tree_Check_r0_nil (R : Orc) (t0 : DV) (t4 : DV) (sg : List SObj) : I_tree_Check_r0 R t0 t4 [] sg = X_tree_Check_r0 R t0 t4 .normal sg := rfl
theorem I_tree_Check_r0_cons (R : Orc) (t0 : DV) (t4 : DV) (x : DV) (ds : List DV) (sg : List SObj) : I_tree_Check_r0 R t0 t4 (x :: ds) sg = B_tree_Check_r0 R t0 t4 (I_tree_Check_r0 R t0 t4 ds) x sg := rfl
theorem eq_B_tree_Check_r0 (R : Orc) (t0 : DV) (t4 : DV) (I : List SObj → Option DV) (x : DV) (sg : List SObj) : B_tree_Check_r0 R t0 t4 I x sg =
  (og (isAggN 16 x) <|
  ob (R.p F_tree_one [(.agg [(proj 0 x), (proj 1 x), (proj 2 x), (proj 3 x), (proj 4 x), (proj 5 x), (proj 6 x), (proj 7 x), (proj 8 x), (proj 9 x), (proj 10 x), (proj 11 x), (proj 12 x), (proj 13 x), (proj 14 x), (proj 15 x)])]) fun d1 =>
  ob (dUn .not d1) fun d2 =>
  oif d2
   (ob (sgBox sg 1) fun c3 =>
   ob (c3[0]?) fun u4 =>
   X_tree_Check_r0 R t0 t4 .ret (sg.set 1 (SObj.box (c3.set 0 ((.int .i64 1), .val)))))
   (I sg)) := evP_of [] (by kernel_rfl)
theorem eq_X_tree_Check_r0_normal (R : Orc) (t0 : DV) (t4 : DV) (sg : List SObj) : X_tree_Check_r0 R t0 t4 .normal sg =
  (ob (sgBox sg 1) fun c1 =>
  ob (c1[0]?) fun u2 =>
  ret1 (ob (sgBox (sg.set 1 (SObj.box (c1.set 0 ((.int .i64 0), .val)))) 1) fun c => oneCell (sg.set 1 (SObj.box (c1.set 0 ((.int .i64 0), .val)))) c)) := konP_of [] (by kernel_rfl)
theorem eq_X_tree_Check_r0_ret (R : Orc) (t0 : DV) (t4 : DV) (sg : List SObj) : X_tree_Check_r0 R t0 t4 .ret sg =
  (ret1 (ob (sgBox sg 1) fun c => oneCell sg c)) := konP_of [] (by kernel_rfl)
theorem fix_tree_Check (x0 : DV) : (run cfg).p F_tree_Check [x0] = P_tree_Check (run cfg) x0 :=
  (fix_pure (C := cfg) (f := F_tree_Check) (fn := Try.f15) (c := code_tree_Check) (by kernel_rfl) Try.func15 (by kernel_rfl)).trans (by kernel_rfl)
theorem call_tree_Check (x0 : DV) {d : DV} (h : P_tree_Check (run cfg) x0 = some d) : (run cfg).p F_tree_Check [x0] = some d := (fix_tree_Check x0).trans h

noncomputable def code_erase_closed : Code := Try.f16.body.getD .skip
noncomputable def P_erase_closed (R : Orc) (x0 : DV) : Option DV := evP cfg R fl_erase_closed (retP cfg.P Try.f16) [] code_erase_closed (initSt Try.f16 [(x0, .val)] [])
theorem eq_erase_closed (R : Orc) (x0 : DV) : P_erase_closed R x0 =
  (og (isAggN 16 x0) <|
  ob (R.p F_tree_Check [(.agg [(proj 0 x0), (proj 1 x0), (proj 2 x0), (proj 3 x0), (proj 4 x0), (proj 5 x0), (proj 6 x0), (proj 7 x0), (proj 8 x0), (proj 9 x0), (proj 10 x0), (proj 11 x0), (proj 12 x0), (proj 13 x0), (proj 14 x0), (proj 15 x0)])]) fun d1 =>
  ob (dBin .eql d1 (.int .i64 0)) fun d2 =>
  ogd d2
   (ob (R.p F_tree_Free [(.agg [(proj 0 x0), (proj 1 x0), (proj 2 x0), (proj 3 x0), (proj 4 x0), (proj 5 x0), (proj 6 x0), (proj 7 x0), (proj 8 x0), (proj 9 x0), (proj 10 x0), (proj 11 x0), (proj 12 x0), (proj 13 x0), (proj 14 x0), (proj 15 x0)])]) fun d3 =>
   ob (dLen d3) fun d4 =>
   ob (dBin .eql d4 (.int .i64 0)) fun d5 =>
   some d5)
   (some (.bool false))
   none) := evP_of [] (by kernel_rfl)
theorem fix_erase_closed (x0 : DV) : (run cfg).p F_erase_closed [x0] = P_erase_closed (run cfg) x0 :=
  (fix_pure (C := cfg) (f := F_erase_closed) (fn := Try.f16) (c := code_erase_closed) (by kernel_rfl) Try.func16 (by kernel_rfl)).trans (by kernel_rfl)
theorem call_erase_closed (x0 : DV) {d : DV} (h : P_erase_closed (run cfg) x0 = some d) : (run cfg).p F_erase_closed [x0] = some d := (fix_erase_closed x0).trans h

noncomputable def code_word_Name : Code := Try.f17.body.getD .skip
noncomputable def P_word_Name (R : Orc) (x0 : DV) : Option DV := evP cfg R fl_word_Name (retP cfg.P Try.f17) [] code_word_Name (initSt Try.f17 [(x0, .val)] [])
noncomputable def P_word_Name_4h (R : Orc) (t0 : DV) (t3 : DV) : Option DV := headP cfg R fl_word_Name (retP cfg.P Try.f17) [true, true, false, true, false] code_word_Name ⟨spread .undef 37 0 [(0, t0), (3, t3)], spread .val 37 0 [], spread none 37 0 [], []⟩
set_option maxRecDepth 100000 in
theorem eq_word_Name (R : Orc) (x0 : DV) : P_word_Name R x0 =
  (ob (dLenS x0) fun d1 =>
  ob (dBin .lss d1 (.int .i64 1)) fun d2 =>
  ogd d2
   (some (.bool false))
   (ob (dLenS x0) fun d3 =>
   ob (dBin .gtr d3 (.int .i64 32)) fun d4 =>
   ogd d4
    (some (.bool false))
    (ob (dStrIdx x0 (.int .i64 0)) fun d5 =>
    ob (dBin .lss d5 (.int .u8 97)) fun d6 =>
    ogd d6
     (some (.bool false))
     (ob (dStrIdx x0 (.int .i64 0)) fun d7 =>
     ob (dBin .gtr d7 (.int .u8 122)) fun d8 =>
     ogd d8
      (some (.bool false))
      (ob (R.p F_word_Key [x0]) fun d9 =>
      oif d9
       (some (.bool false))
       (P_word_Name_4h R x0 (.int .i64 1)))
      none)
     none)
    none)
   none) := evP_of [] (by kernel_rfl)
theorem eq_word_Name_4h (R : Orc) (t0 : DV) (t3 : DV) : P_word_Name_4h R t0 t3 =
  (ob (dLenS t0) fun d1 =>
  ob (dBin .lss t3 d1) fun d2 =>
  oif d2
   (ob (dStrIdx t0 t3) fun d3 =>
   ob (R.p F_word_inner [d3]) fun d4 =>
   ob (dUn .not d4) fun d5 =>
   oif d5
    (some (.bool false))
    (ob (dBin .add t3 (.int .i64 1)) fun d6 =>
    P_word_Name_4h R t0 d6))
   (some (.bool true))) := headP_of [] (by kernel_rfl)
theorem fix_word_Name (x0 : DV) : (run cfg).p F_word_Name [x0] = P_word_Name (run cfg) x0 :=
  (fix_pure (C := cfg) (f := F_word_Name) (fn := Try.f17) (c := code_word_Name) (by kernel_rfl) Try.func17 (by kernel_rfl)).trans (by kernel_rfl)
theorem call_word_Name (x0 : DV) {d : DV} (h : P_word_Name (run cfg) x0 = some d) : (run cfg).p F_word_Name [x0] = some d := (fix_word_Name x0).trans h

noncomputable def code_erase_put : Code := Try.f18.body.getD .skip
noncomputable def P_erase_put (R : Orc) (x0 : DV) (x1 : DV) (x2 : DV) : Option DV := evP cfg R fl_erase_put (retP cfg.P Try.f18) [] code_erase_put (initSt Try.f18 [(x0, .val), (x1, .val), (x2, .val)] [])
noncomputable def P_erase_put_3 (R : Orc) (t1 : DV) (b3 : DV) (b5 : DV) (b6_0 : DV) (b6_1 : DV) (b6_2 : DV) (b6_3 : DV) (b6_4 : DV) (b6_5 : DV) (b6_6 : DV) (b6_7 : DV) (b6_8 : DV) (b6_9 : DV) (b6_10 : DV) (b6_11 : DV) (b6_12 : DV) (b6_13 : DV) (b6_14 : DV) (b6_15 : DV) : Option DV := evP cfg R fl_erase_put (retP cfg.P Try.f18) [true, true] code_erase_put ⟨spread .undef 46 0 [(1, t1)], spread .val 46 0 [(3, (.loc 3 0)), (5, (.loc 5 0)), (6, (.loc 6 0))], spread none 46 0 [(3, some [((proj 0 b3), .val), ((proj 1 b3), .val), ((proj 2 b3), .val), ((proj 3 b3), .val), ((proj 4 b3), .val), ((proj 5 b3), .val), ((proj 6 b3), .val), ((proj 7 b3), .val), ((proj 8 b3), .val), ((proj 9 b3), .val), ((proj 10 b3), .val), ((proj 11 b3), .val), ((proj 12 b3), .val), ((proj 13 b3), .val), ((proj 14 b3), .val), ((proj 15 b3), .val)]), (5, some [((proj 0 b5), .val), ((proj 1 b5), .val), ((proj 2 b5), .val), ((proj 3 b5), .val), ((proj 4 b5), .val), ((proj 5 b5), .val), ((proj 6 b5), .val), ((proj 7 b5), .val), ((proj 8 b5), .val), ((proj 9 b5), .val), ((proj 10 b5), .val), ((proj 11 b5), .val), ((proj 12 b5), .val), ((proj 13 b5), .val), ((proj 14 b5), .val), ((proj 15 b5), .val)]), (6, some [(b6_0, .val), (b6_1, .val), (b6_2, .val), (b6_3, .val), (b6_4, .val), (b6_5, .val), (b6_6, .val), (b6_7, .val), (b6_8, .val), (b6_9, .val), (b6_10, .val), (b6_11, .val), (b6_12, .val), (b6_13, .val), (b6_14, .val), (b6_15, .val)])], []⟩
noncomputable def P_erase_put_5h (R : Orc) (t1 : DV) (t24r3 : Nat) (t25 : DV) (t26 : DV) (b3_0 : DV) (b3_1 : DV) (b3_2 : DV) (b3_3 : DV) (b3_4 : DV) (b3_5 : DV) (b3_6 : DV) (b3_7 : DV) (b3_8 : DV) (b3_9 : DV) (b3_10 : DV) (b3_11 : DV) (b3_12 : DV) (b3_13 : DV) (b3_14 : DV) (b3_15r3 : Nat) (b5 : DV) (b6_0 : DV) (b6_1 : DV) (b6_2 : DV) (b6_3 : DV) (b6_4 : DV) (b6_5 : DV) (b6_6 : DV) (b6_7 : DV) (b6_8 : DV) (b6_9 : DV) (b6_10 : DV) (b6_11 : DV) (b6_12 : DV) (b6_13 : DV) (b6_14 : DV) (b6_15 : DV) (sg : List SObj) : Option DV := headP cfg R fl_erase_put (retP cfg.P Try.f18) [true, true, true, false, true, false] code_erase_put ⟨spread .undef 46 0 [(1, t1), (25, t25), (26, t26)], spread .val 46 0 [(3, (.loc 3 0)), (5, (.loc 5 0)), (6, (.loc 6 0)), (24, (.arr 0 16 0 t24r3))], spread none 46 0 [(3, some [(b3_0, .val), (b3_1, .val), (b3_2, .val), (b3_3, .val), (b3_4, .val), (b3_5, .val), (b3_6, .val), (b3_7, .val), (b3_8, .val), (b3_9, .val), (b3_10, .val), (b3_11, .val), (b3_12, .val), (b3_13, .val), (b3_14, .val), (.undef, (.arr 0 16 0 b3_15r3))]), (5, some [((proj 0 b5), .val), ((proj 1 b5), .val), ((proj 2 b5), .val), ((proj 3 b5), .val), ((proj 4 b5), .val), ((proj 5 b5), .val), ((proj 6 b5), .val), ((proj 7 b5), .val), ((proj 8 b5), .val), ((proj 9 b5), .val), ((proj 10 b5), .val), ((proj 11 b5), .val), ((proj 12 b5), .val), ((proj 13 b5), .val), ((proj 14 b5), .val), ((proj 15 b5), .val)]), (6, some [(b6_0, .val), (b6_1, .val), (b6_2, .val), (b6_3, .val), (b6_4, .val), (b6_5, .val), (b6_6, .val), (b6_7, .val), (b6_8, .val), (b6_9, .val), (b6_10, .val), (b6_11, .val), (b6_12, .val), (b6_13, .val), (b6_14, .val), (b6_15, .val)])], sg⟩
theorem eq_erase_put (R : Orc) (x0 : DV) (x1 : DV) (x2 : DV) : P_erase_put R x0 x1 x2 =
  (og (isAggN 16 x0) <|
  og (isAggN 16 x2) <|
  ob (dBin .eql (proj 0 x0) (.int .i64 1)) fun d1 =>
  ogd d1
   (ob (dBin .eql (proj 3 x0) x1) fun d2 =>
   oif d2
    (some (.agg [(proj 0 x2), (proj 1 x2), (proj 2 x2), (proj 3 x2), (proj 4 x2), (proj 5 x2), (proj 6 x2), (proj 7 x2), (proj 8 x2), (proj 9 x2), (proj 10 x2), (proj 11 x2), (proj 12 x2), (proj 13 x2), (proj 14 x2), (proj 15 x2)]))
    (P_erase_put_3 R x1 x0 x2 (.int .i64 0) (.int .i64 0) (.int .i64 0) (.str ⟨#[]⟩) (.str ⟨#[]⟩) (.int .i64 0) (.str ⟨#[]⟩) (.int .i64 0) (.int .i64 0) (.int .i64 0) (.list 3 []) (.int .i64 0) (.int .i64 0) (.list 3 []) (.list 7 []) (.list 16 [])))
   (P_erase_put_3 R x1 x0 x2 (.int .i64 0) (.int .i64 0) (.int .i64 0) (.str ⟨#[]⟩) (.str ⟨#[]⟩) (.int .i64 0) (.str ⟨#[]⟩) (.int .i64 0) (.int .i64 0) (.int .i64 0) (.list 3 []) (.int .i64 0) (.int .i64 0) (.list 3 []) (.list 7 []) (.list 16 []))
   none) := evP_of [3] (by kernel_rfl)
theorem eq_erase_put_3 (R : Orc) (t1 : DV) (b3 : DV) (b5 : DV) (b6_0 : DV) (b6_1 : DV) (b6_2 : DV) (b6_3 : DV) (b6_4 : DV) (b6_5 : DV) (b6_6 : DV) (b6_7 : DV) (b6_8 : DV) (b6_9 : DV) (b6_10 : DV) (b6_11 : DV) (b6_12 : DV) (b6_13 : DV) (b6_14 : DV) (b6_15 : DV) : P_erase_put_3 R t1 b3 b5 b6_0 b6_1 b6_2 b6_3 b6_4 b6_5 b6_6 b6_7 b6_8 b6_9 b6_10 b6_11 b6_12 b6_13 b6_14 b6_15 =
  (ob (dList (proj 15 b3)) fun p1 =>
  og (true && p1.1 == 16 && decide (p1.2.length ≤ lim)) <|
  P_erase_put_5h R t1 (p1.2.length) (.int .i64 p1.2.length) (.int .i64 0) (proj 0 b3) (proj 1 b3) (proj 2 b3) (proj 3 b3) (proj 4 b3) (proj 5 b3) (proj 6 b3) (proj 7 b3) (proj 8 b3) (proj 9 b3) (proj 10 b3) (proj 11 b3) (proj 12 b3) (proj 13 b3) (proj 14 b3) (p1.2.length) b5 b6_0 b6_1 b6_2 b6_3 b6_4 b6_5 b6_6 b6_7 b6_8 b6_9 b6_10 b6_11 b6_12 b6_13 b6_14 b6_15 [.arr 16 p1.2]) := evP_of [3] (by kernel_rfl)
theorem eq_erase_put_5h (R : Orc) (t1 : DV) (t24r3 : Nat) (t25 : DV) (t26 : DV) (b3_0 : DV) (b3_1 : DV) (b3_2 : DV) (b3_3 : DV) (b3_4 : DV) (b3_5 : DV) (b3_6 : DV) (b3_7 : DV) (b3_8 : DV) (b3_9 : DV) (b3_10 : DV) (b3_11 : DV) (b3_12 : DV) (b3_13 : DV) (b3_14 : DV) (b3_15r3 : Nat) (b5 : DV) (b6_0 : DV) (b6_1 : DV) (b6_2 : DV) (b6_3 : DV) (b6_4 : DV) (b6_5 : DV) (b6_6 : DV) (b6_7 : DV) (b6_8 : DV) (b6_9 : DV) (b6_10 : DV) (b6_11 : DV) (b6_12 : DV) (b6_13 : DV) (b6_14 : DV) (b6_15 : DV) (sg : List SObj) : P_erase_put_5h R t1 t24r3 t25 t26 b3_0 b3_1 b3_2 b3_3 b3_4 b3_5 b3_6 b3_7 b3_8 b3_9 b3_10 b3_11 b3_12 b3_13 b3_14 b3_15r3 b5 b6_0 b6_1 b6_2 b6_3 b6_4 b6_5 b6_6 b6_7 b6_8 b6_9 b6_10 b6_11 b6_12 b6_13 b6_14 b6_15 sg =
  (ob (dBin .lss t26 t25) fun d1 =>
  oif d1
   (ob (arrIdx 0 t24r3 t26) fun n2 =>
   ob (sgArr sg 0) fun r3 =>
   ob (r3.2[n2]?) fun d4 =>
   og (r3.1 == 16) <|
   ob (R.p F_erase_binds [(.agg [b3_0, b3_1, b3_2, b3_3, b3_4, b3_5, b3_6, b3_7, b3_8, b3_9, b3_10, b3_11, b3_12, b3_13, b3_14, .undef]), t26, t1]) fun d5 =>
   ob (dUn .not d5) fun d6 =>
   oif d6
    (ob (R.p F_erase_put [(.agg [(proj 0 d4), (proj 1 d4), (proj 2 d4), (proj 3 d4), (proj 4 d4), (proj 5 d4), (proj 6 d4), (proj 7 d4), (proj 8 d4), (proj 9 d4), (proj 10 d4), (proj 11 d4), (proj 12 d4), (proj 13 d4), (proj 14 d4), (proj 15 d4)]), t1, (.agg [(proj 0 b5), (proj 1 b5), (proj 2 b5), (proj 3 b5), (proj 4 b5), (proj 5 b5), (proj 6 b5), (proj 7 b5), (proj 8 b5), (proj 9 b5), (proj 10 b5), (proj 11 b5), (proj 12 b5), (proj 13 b5), (proj 14 b5), (proj 15 b5)])]) fun d7 =>
    ob (arrIdx 0 b3_15r3 t26) fun n8 =>
    ob (sgArr sg 0) fun r9 =>
    ob (r9.2[n8]?) fun u10 =>
    og (isAggN 16 d7) <|
    og (r9.1 == 16) <|
    ob (dBin .add t26 (.int .i64 1)) fun d11 =>
    P_erase_put_5h R t1 t24r3 t25 d11 b3_0 b3_1 b3_2 b3_3 b3_4 b3_5 b3_6 b3_7 b3_8 b3_9 b3_10 b3_11 b3_12 b3_13 b3_14 b3_15r3 b5 b6_0 b6_1 b6_2 b6_3 b6_4 b6_5 b6_6 b6_7 b6_8 b6_9 b6_10 b6_11 b6_12 b6_13 b6_14 b6_15 (sg.set 0 (.arr 16 (r9.2.set n8 d7))))
    (ob (dBin .add t26 (.int .i64 1)) fun d12 =>
    P_erase_put_5h R t1 t24r3 t25 d12 b3_0 b3_1 b3_2 b3_3 b3_4 b3_5 b3_6 b3_7 b3_8 b3_9 b3_10 b3_11 b3_12 b3_13 b3_14 b3_15r3 b5 b6_0 b6_1 b6_2 b6_3 b6_4 b6_5 b6_6 b6_7 b6_8 b6_9 b6_10 b6_11 b6_12 b6_13 b6_14 b6_15 sg))
   (retL [ob (sealCells sg [(b3_0, .val), (b3_1, .val), (b3_2, .val), (b3_3, .val), (b3_4, .val), (b3_5, .val), (b3_6, .val), (b3_7, .val), (b3_8, .val), (b3_9, .val), (b3_10, .val), (b3_11, .val), (b3_12, .val), (b3_13, .val), (b3_14, .val), (.undef, (.arr 0 16 0 b3_15r3))]) fun ds => some (.agg ds)])) := headP_of [3] (by kernel_rfl)
theorem fix_erase_put (x0 : DV) (x1 : DV) (x2 : DV) : (run cfg).p F_erase_put [x0, x1, x2] = P_erase_put (run cfg) x0 x1 x2 :=
  (fix_pure (C := cfg) (f := F_erase_put) (fn := Try.f18) (c := code_erase_put) (by kernel_rfl) Try.func18 (by kernel_rfl)).trans (by kernel_rfl)
theorem call_erase_put (x0 : DV) (x1 : DV) (x2 : DV) {d : DV} (h : P_erase_put (run cfg) x0 x1 x2 = some d) : (run cfg).p F_erase_put [x0, x1, x2] = some d := (fix_erase_put x0 x1 x2).trans h

noncomputable def code_l26_num : Code := Try.f19.body.getD .skip
noncomputable def P_l26_num (R : Orc) (x0 : DV) : Option DV := evP cfg R fl_l26_num (retP cfg.P Try.f19) [] code_l26_num (initSt Try.f19 [(x0, .val)] [])
theorem eq_l26_num (R : Orc) (x0 : DV) : P_l26_num R x0 =
  (og (isCell x0) <|
  some (.agg [(.int .i64 2), (.int .i64 0), (.int .i64 0), (.str ⟨#[]⟩), (.str ⟨#[]⟩), x0, (.str ⟨#[]⟩), (.int .i64 0), (.int .i64 0), (.int .i64 0), (.list 3 []), (.int .i64 0), (.int .i64 0), (.list 3 []), (.list 7 []), (.list 16 [])])) := evP_of [] (by kernel_rfl)
theorem fix_l26_num (x0 : DV) : (run cfg).p F_l26_num [x0] = P_l26_num (run cfg) x0 :=
  (fix_pure (C := cfg) (f := F_l26_num) (fn := Try.f19) (c := code_l26_num) (by kernel_rfl) Try.func19 (by kernel_rfl)).trans (by kernel_rfl)
theorem call_l26_num (x0 : DV) {d : DV} (h : P_l26_num (run cfg) x0 = some d) : (run cfg).p F_l26_num [x0] = some d := (fix_l26_num x0).trans h

noncomputable def code_erase_Step : Code := Try.f20.body.getD .skip
noncomputable def P_erase_Step (R : Orc) (x0 : DV) : Option DV := evP cfg R fl_erase_Step (retP cfg.P Try.f20) [] code_erase_Step (initSt Try.f20 [(x0, .val)] [])
theorem eq_erase_Step (R : Orc) (x0 : DV) : P_erase_Step R x0 =
  (og (isAggN 16 x0) <|
  ob (R.p F_erase_closed [(.agg [(proj 0 x0), (proj 1 x0), (proj 2 x0), (proj 3 x0), (proj 4 x0), (proj 5 x0), (proj 6 x0), (proj 7 x0), (proj 8 x0), (proj 9 x0), (proj 10 x0), (proj 11 x0), (proj 12 x0), (proj 13 x0), (proj 14 x0), (proj 15 x0)])]) fun d1 =>
  ob (dUn .not d1) fun d2 =>
  oif d2
   (ob (R.p F_erase_stuck []) fun d3 =>
   ob (dExt 0 d3) fun d4 =>
   ob (dExt 1 d3) fun d5 =>
   og (isAggN 16 d4) <|
   og (isAggN 15 d5) <|
   some (.tup [(.agg [(proj 0 d4), (proj 1 d4), (proj 2 d4), (proj 3 d4), (proj 4 d4), (proj 5 d4), (proj 6 d4), (proj 7 d4), (proj 8 d4), (proj 9 d4), (proj 10 d4), (proj 11 d4), (proj 12 d4), (proj 13 d4), (proj 14 d4), (proj 15 d4)]), (.agg [(proj 0 d5), (proj 1 d5), (proj 2 d5), (proj 3 d5), (proj 4 d5), (proj 5 d5), (proj 6 d5), (proj 7 d5), (proj 8 d5), (proj 9 d5), (proj 10 d5), (proj 11 d5), (proj 12 d5), (proj 13 d5), (proj 14 d5)])]))
   (ob (R.p F_erase_value [(.agg [(proj 0 x0), (proj 1 x0), (proj 2 x0), (proj 3 x0), (proj 4 x0), (proj 5 x0), (proj 6 x0), (proj 7 x0), (proj 8 x0), (proj 9 x0), (proj 10 x0), (proj 11 x0), (proj 12 x0), (proj 13 x0), (proj 14 x0), (proj 15 x0)])]) fun d6 =>
   oif d6
    (some (.tup [(.agg [(proj 0 x0), (proj 1 x0), (proj 2 x0), (proj 3 x0), (proj 4 x0), (proj 5 x0), (proj 6 x0), (proj 7 x0), (proj 8 x0), (proj 9 x0), (proj 10 x0), (proj 11 x0), (proj 12 x0), (proj 13 x0), (proj 14 x0), (proj 15 x0)]), (.agg [(.int .i64 1), (.int .i64 0), (.int .i64 0), (.str ⟨#[]⟩), (.int .i64 0), (.int .i64 0), (.int .i64 0), (.bool false), (.list 5 []), (.list 9 []), (.int .i64 0), (.bool false), (.int .i64 0), (.int .i64 0), (.int .i64 0)])]))
    (ob (R.p F_erase_step [(.agg [(proj 0 x0), (proj 1 x0), (proj 2 x0), (proj 3 x0), (proj 4 x0), (proj 5 x0), (proj 6 x0), (proj 7 x0), (proj 8 x0), (proj 9 x0), (proj 10 x0), (proj 11 x0), (proj 12 x0), (proj 13 x0), (proj 14 x0), (proj 15 x0)])]) fun d7 =>
    ob (dExt 0 d7) fun d8 =>
    ob (dExt 1 d7) fun d9 =>
    og (isAggN 16 d8) <|
    og (isAggN 15 d9) <|
    some (.tup [(.agg [(proj 0 d8), (proj 1 d8), (proj 2 d8), (proj 3 d8), (proj 4 d8), (proj 5 d8), (proj 6 d8), (proj 7 d8), (proj 8 d8), (proj 9 d8), (proj 10 d8), (proj 11 d8), (proj 12 d8), (proj 13 d8), (proj 14 d8), (proj 15 d8)]), (.agg [(proj 0 d9), (proj 1 d9), (proj 2 d9), (proj 3 d9), (proj 4 d9), (proj 5 d9), (proj 6 d9), (proj 7 d9), (proj 8 d9), (proj 9 d9), (proj 10 d9), (proj 11 d9), (proj 12 d9), (proj 13 d9), (proj 14 d9)])])))) := evP_of [] (by kernel_rfl)
theorem fix_erase_Step (x0 : DV) : (run cfg).p F_erase_Step [x0] = P_erase_Step (run cfg) x0 :=
  (fix_pure (C := cfg) (f := F_erase_Step) (fn := Try.f20) (c := code_erase_Step) (by kernel_rfl) Try.func20 (by kernel_rfl)).trans (by kernel_rfl)
theorem call_erase_Step (x0 : DV) {d : DV} (h : P_erase_Step (run cfg) x0 = some d) : (run cfg).p F_erase_Step [x0] = some d := (fix_erase_Step x0).trans h

noncomputable def code_erase_Run : Code := Try.f21.body.getD .skip
noncomputable def P_erase_Run (R : Orc) (x0 : DV) (x1 : DV) : Option DV := evP cfg R fl_erase_Run (retP cfg.P Try.f21) [] code_erase_Run (initSt Try.f21 [(x0, .val), (x1, .val)] [])
noncomputable def P_erase_Run_3h (R : Orc) (t1 : DV) (t5 : DV) (t6 : DV) (b2_0 : DV) (b2_1 : DV) (b2_2 : DV) (b2_3 : DV) (b2_4 : DV) (b2_5 : DV) (b2_6 : DV) (b2_7 : DV) (b2_8 : DV) (b2_9 : DV) (b2_10 : DV) (b2_11 : DV) (b2_12 : DV) (b2_13 : DV) (b2_14 : DV) (b2_15 : DV) (b4_0 : DV) (b4_1 : DV) (b4_2 : DV) (b4_3 : DV) (b4_4 : DV) (b4_5 : DV) (b4_6 : DV) (b4_7 : DV) (b4_8 : DV) (b4_9 : DV) (b4_10 : DV) (b4_11 : DV) (b4_12 : DV) (b4_13 : DV) (b4_14 : DV) : Option DV := headP cfg R fl_erase_Run (retP cfg.P Try.f21) [true, true, true, false, false] code_erase_Run ⟨spread .undef 63 0 [(1, t1), (5, t5), (6, t6)], spread .val 63 0 [(2, (.loc 2 0)), (4, (.loc 4 0))], spread none 63 0 [(2, some [(b2_0, .val), (b2_1, .val), (b2_2, .val), (b2_3, .val), (b2_4, .val), (b2_5, .val), (b2_6, .val), (b2_7, .val), (b2_8, .val), (b2_9, .val), (b2_10, .val), (b2_11, .val), (b2_12, .val), (b2_13, .val), (b2_14, .val), (b2_15, .val)]), (4, some [(b4_0, .val), (b4_1, .val), (b4_2, .val), (b4_3, .val), (b4_4, .val), (b4_5, .val), (b4_6, .val), (b4_7, .val), (b4_8, .val), (b4_9, .val), (b4_10, .val), (b4_11, .val), (b4_12, .val), (b4_13, .val), (b4_14, .val)])], []⟩
noncomputable def P_erase_Run_5 (R : Orc) (t1 : DV) (t5 : DV) (t6 : DV) (b2_0 : DV) (b2_1 : DV) (b2_2 : DV) (b2_3 : DV) (b2_4 : DV) (b2_5 : DV) (b2_6 : DV) (b2_7 : DV) (b2_8 : DV) (b2_9 : DV) (b2_10 : DV) (b2_11 : DV) (b2_12 : DV) (b2_13 : DV) (b2_14 : DV) (b2_15 : DV) (b4_0 : DV) (b4_1 : DV) (b4_2 : DV) (b4_3 : DV) (b4_4 : DV) (b4_5 : DV) (b4_6 : DV) (b4_7 : DV) (b4_8 : DV) (b4_9 : DV) (b4_10 : DV) (b4_11 : DV) (b4_12 : DV) (b4_13 : DV) (b4_14 : DV) : Option DV := evP cfg R fl_erase_Run (retP cfg.P Try.f21) [true, true, true, false, false, false, true] code_erase_Run ⟨spread .undef 63 0 [(1, t1), (5, t5), (6, t6)], spread .val 63 0 [(2, (.loc 2 0)), (4, (.loc 4 0))], spread none 63 0 [(2, some [(b2_0, .val), (b2_1, .val), (b2_2, .val), (b2_3, .val), (b2_4, .val), (b2_5, .val), (b2_6, .val), (b2_7, .val), (b2_8, .val), (b2_9, .val), (b2_10, .val), (b2_11, .val), (b2_12, .val), (b2_13, .val), (b2_14, .val), (b2_15, .val)]), (4, some [(b4_0, .val), (b4_1, .val), (b4_2, .val), (b4_3, .val), (b4_4, .val), (b4_5, .val), (b4_6, .val), (b4_7, .val), (b4_8, .val), (b4_9, .val), (b4_10, .val), (b4_11, .val), (b4_12, .val), (b4_13, .val), (b4_14, .val)])], []⟩
noncomputable def P_erase_Run_10 (R : Orc) (t1 : DV) (t5 : DV) (t6 : DV) (b2_0 : DV) (b2_1 : DV) (b2_2 : DV) (b2_3 : DV) (b2_4 : DV) (b2_5 : DV) (b2_6 : DV) (b2_7 : DV) (b2_8 : DV) (b2_9 : DV) (b2_10 : DV) (b2_11 : DV) (b2_12 : DV) (b2_13 : DV) (b2_14 : DV) (b2_15 : DV) (b4_0 : DV) (b4_1 : DV) (b4_2 : DV) (b4_3 : DV) (b4_4 : DV) (b4_5 : DV) (b4_6 : DV) (b4_7 : DV) (b4_8 : DV) (b4_9 : DV) (b4_10 : DV) (b4_11 : DV) (b4_12 : DV) (b4_13 : DV) (b4_14 : DV) (b7_0 : DV) (b7_1 : DV) (b7_2 : DV) (b7_3 : DV) (b7_4 : DV) (b7_5 : DV) (b7_6 : DV) (b7_7 : DV) (b7_8 : DV) (b7_9 : DV) (b7_10 : DV) (b7_11 : DV) (b7_12 : DV) (b7_13 : DV) (b7_14 : DV) (b7_15 : DV) (b8_0 : DV) (b8_1 : DV) (b8_2 : DV) (b8_3 : DV) (b8_4 : DV) (b8_5 : DV) (b8_6 : DV) (b8_7 : DV) (b8_8 : DV) (b8_9 : DV) (b8_10 : DV) (b8_11 : DV) (b8_12 : DV) (b8_13 : DV) (b8_14 : DV) : Option DV := evP cfg R fl_erase_Run (retP cfg.P Try.f21) [true, true, true, false, false, false, true, false, false, true, true, true] code_erase_Run ⟨spread .undef 63 0 [(1, t1), (5, t5), (6, t6)], spread .val 63 0 [(2, (.loc 2 0)), (4, (.loc 4 0)), (7, (.loc 7 0)), (8, (.loc 8 0))], spread none 63 0 [(2, some [(b2_0, .val), (b2_1, .val), (b2_2, .val), (b2_3, .val), (b2_4, .val), (b2_5, .val), (b2_6, .val), (b2_7, .val), (b2_8, .val), (b2_9, .val), (b2_10, .val), (b2_11, .val), (b2_12, .val), (b2_13, .val), (b2_14, .val), (b2_15, .val)]), (4, some [(b4_0, .val), (b4_1, .val), (b4_2, .val), (b4_3, .val), (b4_4, .val), (b4_5, .val), (b4_6, .val), (b4_7, .val), (b4_8, .val), (b4_9, .val), (b4_10, .val), (b4_11, .val), (b4_12, .val), (b4_13, .val), (b4_14, .val)]), (7, some [(b7_0, .val), (b7_1, .val), (b7_2, .val), (b7_3, .val), (b7_4, .val), (b7_5, .val), (b7_6, .val), (b7_7, .val), (b7_8, .val), (b7_9, .val), (b7_10, .val), (b7_11, .val), (b7_12, .val), (b7_13, .val), (b7_14, .val), (b7_15, .val)]), (8, some [(b8_0, .val), (b8_1, .val), (b8_2, .val), (b8_3, .val), (b8_4, .val), (b8_5, .val), (b8_6, .val), (b8_7, .val), (b8_8, .val), (b8_9, .val), (b8_10, .val), (b8_11, .val), (b8_12, .val), (b8_13, .val), (b8_14, .val)])], []⟩
theorem eq_erase_Run (R : Orc) (x0 : DV) (x1 : DV) : P_erase_Run R x0 x1 =
  (og (isAggN 16 x0) <|
  ob (dMax x1 (.int .i64 0)) fun d1 =>
  ob (dMin d1 (.int .i64 65536)) fun d2 =>
  ob (R.p F_erase_closed [(.agg [(proj 0 x0), (proj 1 x0), (proj 2 x0), (proj 3 x0), (proj 4 x0), (proj 5 x0), (proj 6 x0), (proj 7 x0), (proj 8 x0), (proj 9 x0), (proj 10 x0), (proj 11 x0), (proj 12 x0), (proj 13 x0), (proj 14 x0), (proj 15 x0)])]) fun d3 =>
  P_erase_Run_3h R d2 d3 (.int .i64 0) (proj 0 x0) (proj 1 x0) (proj 2 x0) (proj 3 x0) (proj 4 x0) (proj 5 x0) (proj 6 x0) (proj 7 x0) (proj 8 x0) (proj 9 x0) (proj 10 x0) (proj 11 x0) (proj 12 x0) (proj 13 x0) (proj 14 x0) (proj 15 x0) (.int .i64 0) (.int .i64 0) (.int .i64 0) (.str ⟨#[]⟩) (.int .i64 0) (.int .i64 0) (.int .i64 0) (.bool false) (.list 5 []) (.list 9 []) (.int .i64 0) (.bool false) (.int .i64 0) (.int .i64 0) (.int .i64 0)) := evP_of [5, 10] (by kernel_rfl)
theorem eq_erase_Run_3h (R : Orc) (t1 : DV) (t5 : DV) (t6 : DV) (b2_0 : DV) (b2_1 : DV) (b2_2 : DV) (b2_3 : DV) (b2_4 : DV) (b2_5 : DV) (b2_6 : DV) (b2_7 : DV) (b2_8 : DV) (b2_9 : DV) (b2_10 : DV) (b2_11 : DV) (b2_12 : DV) (b2_13 : DV) (b2_14 : DV) (b2_15 : DV) (b4_0 : DV) (b4_1 : DV) (b4_2 : DV) (b4_3 : DV) (b4_4 : DV) (b4_5 : DV) (b4_6 : DV) (b4_7 : DV) (b4_8 : DV) (b4_9 : DV) (b4_10 : DV) (b4_11 : DV) (b4_12 : DV) (b4_13 : DV) (b4_14 : DV) : P_erase_Run_3h R t1 t5 t6 b2_0 b2_1 b2_2 b2_3 b2_4 b2_5 b2_6 b2_7 b2_8 b2_9 b2_10 b2_11 b2_12 b2_13 b2_14 b2_15 b4_0 b4_1 b4_2 b4_3 b4_4 b4_5 b4_6 b4_7 b4_8 b4_9 b4_10 b4_11 b4_12 b4_13 b4_14 =
  (ob (dUn .not t5) fun d1 =>
  ogd d1
   (P_erase_Run_5 R t1 t5 t6 b2_0 b2_1 b2_2 b2_3 b2_4 b2_5 b2_6 b2_7 b2_8 b2_9 b2_10 b2_11 b2_12 b2_13 b2_14 b2_15 b4_0 b4_1 b4_2 b4_3 b4_4 b4_5 b4_6 b4_7 b4_8 b4_9 b4_10 b4_11 b4_12 b4_13 b4_14)
   (ob (R.p F_erase_value [(.agg [b2_0, b2_1, b2_2, b2_3, b2_4, b2_5, b2_6, b2_7, b2_8, b2_9, b2_10, b2_11, b2_12, b2_13, b2_14, b2_15])]) fun d2 =>
   ob (dUn .not d2) fun d3 =>
   oif d3
    (P_erase_Run_5 R t1 t5 t6 b2_0 b2_1 b2_2 b2_3 b2_4 b2_5 b2_6 b2_7 b2_8 b2_9 b2_10 b2_11 b2_12 b2_13 b2_14 b2_15 b4_0 b4_1 b4_2 b4_3 b4_4 b4_5 b4_6 b4_7 b4_8 b4_9 b4_10 b4_11 b4_12 b4_13 b4_14)
    (ob (R.p F_erase_told [(.agg [b2_0, b2_1, b2_2, b2_3, b2_4, b2_5, b2_6, b2_7, b2_8, b2_9, b2_10, b2_11, b2_12, b2_13, b2_14, b2_15])]) fun d4 =>
    ob (dExt 0 d4) fun d5 =>
    ob (dExt 1 d4) fun d6 =>
    og (isAggN 9 d5) <|
    ob (dBin .sub t1 t6) fun d7 =>
    ob (dBin .gtr d6 d7) fun d8 =>
    oif d8
     (og (isCell t1) <|
     some (.agg [(.int .i64 5), (.int .i64 0), (.int .i64 0), (.str ⟨#[]⟩), (.int .i64 0), (.int .i64 0), (.int .i64 0), (.bool false), (.list 5 []), (.list 9 []), (.int .i64 0), (.bool false), (.int .i64 0), (.int .i64 0), t1]))
     (ob (dBin .add t6 d6) fun d9 =>
     og (isCell d9) <|
     some (.agg [(.int .i64 1), (proj 0 d5), (proj 1 d5), (proj 2 d5), (proj 3 d5), (proj 4 d5), (proj 5 d5), (proj 6 d5), (proj 7 d5), (proj 8 d5), (.int .i64 0), (.bool false), (.int .i64 0), (.int .i64 0), d9]))))
   none) := headP_of [5, 10] (by kernel_rfl)
theorem eq_erase_Run_5 (R : Orc) (t1 : DV) (t5 : DV) (t6 : DV) (b2_0 : DV) (b2_1 : DV) (b2_2 : DV) (b2_3 : DV) (b2_4 : DV) (b2_5 : DV) (b2_6 : DV) (b2_7 : DV) (b2_8 : DV) (b2_9 : DV) (b2_10 : DV) (b2_11 : DV) (b2_12 : DV) (b2_13 : DV) (b2_14 : DV) (b2_15 : DV) (b4_0 : DV) (b4_1 : DV) (b4_2 : DV) (b4_3 : DV) (b4_4 : DV) (b4_5 : DV) (b4_6 : DV) (b4_7 : DV) (b4_8 : DV) (b4_9 : DV) (b4_10 : DV) (b4_11 : DV) (b4_12 : DV) (b4_13 : DV) (b4_14 : DV) : P_erase_Run_5 R t1 t5 t6 b2_0 b2_1 b2_2 b2_3 b2_4 b2_5 b2_6 b2_7 b2_8 b2_9 b2_10 b2_11 b2_12 b2_13 b2_14 b2_15 b4_0 b4_1 b4_2 b4_3 b4_4 b4_5 b4_6 b4_7 b4_8 b4_9 b4_10 b4_11 b4_12 b4_13 b4_14 =
  (ob (dBin .eql t6 t1) fun d1 =>
  oif d1
   (og (isCell t6) <|
   some (.agg [(.int .i64 5), (.int .i64 0), (.int .i64 0), (.str ⟨#[]⟩), (.int .i64 0), (.int .i64 0), (.int .i64 0), (.bool false), (.list 5 []), (.list 9 []), (.int .i64 0), (.bool false), (.int .i64 0), (.int .i64 0), t6]))
   (oif t5
    (ob (R.p F_erase_step [(.agg [b2_0, b2_1, b2_2, b2_3, b2_4, b2_5, b2_6, b2_7, b2_8, b2_9, b2_10, b2_11, b2_12, b2_13, b2_14, b2_15])]) fun d2 =>
    ob (dExt 0 d2) fun d3 =>
    ob (dExt 1 d2) fun d4 =>
    og (isAggN 16 d3) <|
    og (isAggN 15 d4) <|
    P_erase_Run_10 R t1 t5 t6 b2_0 b2_1 b2_2 b2_3 b2_4 b2_5 b2_6 b2_7 b2_8 b2_9 b2_10 b2_11 b2_12 b2_13 b2_14 b2_15 b4_0 b4_1 b4_2 b4_3 b4_4 b4_5 b4_6 b4_7 b4_8 b4_9 b4_10 b4_11 b4_12 b4_13 b4_14 (proj 0 d3) (proj 1 d3) (proj 2 d3) (proj 3 d3) (proj 4 d3) (proj 5 d3) (proj 6 d3) (proj 7 d3) (proj 8 d3) (proj 9 d3) (proj 10 d3) (proj 11 d3) (proj 12 d3) (proj 13 d3) (proj 14 d3) (proj 15 d3) (proj 0 d4) (proj 1 d4) (proj 2 d4) (proj 3 d4) (proj 4 d4) (proj 5 d4) (proj 6 d4) (proj 7 d4) (proj 8 d4) (proj 9 d4) (proj 10 d4) (proj 11 d4) (proj 12 d4) (proj 13 d4) (proj 14 d4))
    (P_erase_Run_10 R t1 t5 t6 b2_0 b2_1 b2_2 b2_3 b2_4 b2_5 b2_6 b2_7 b2_8 b2_9 b2_10 b2_11 b2_12 b2_13 b2_14 b2_15 b4_0 b4_1 b4_2 b4_3 b4_4 b4_5 b4_6 b4_7 b4_8 b4_9 b4_10 b4_11 b4_12 b4_13 b4_14 (.int .i64 0) (.int .i64 0) (.int .i64 0) (.str ⟨#[]⟩) (.str ⟨#[]⟩) (.int .i64 0) (.str ⟨#[]⟩) (.int .i64 0) (.int .i64 0) (.int .i64 0) (.list 3 []) (.int .i64 0) (.int .i64 0) (.list 3 []) (.list 7 []) (.list 16 []) (.int .i64 6) (.int .i64 0) (.int .i64 0) (.str ⟨#[]⟩) (.int .i64 0) (.int .i64 0) (.int .i64 0) (.bool false) (.list 5 []) (.list 9 []) (.int .i64 0) (.bool false) (.int .i64 0) (.int .i64 0) (.int .i64 0)))) := evP_of [5, 10] (by kernel_rfl)
theorem eq_erase_Run_10 (R : Orc) (t1 : DV) (t5 : DV) (t6 : DV) (b2_0 : DV) (b2_1 : DV) (b2_2 : DV) (b2_3 : DV) (b2_4 : DV) (b2_5 : DV) (b2_6 : DV) (b2_7 : DV) (b2_8 : DV) (b2_9 : DV) (b2_10 : DV) (b2_11 : DV) (b2_12 : DV) (b2_13 : DV) (b2_14 : DV) (b2_15 : DV) (b4_0 : DV) (b4_1 : DV) (b4_2 : DV) (b4_3 : DV) (b4_4 : DV) (b4_5 : DV) (b4_6 : DV) (b4_7 : DV) (b4_8 : DV) (b4_9 : DV) (b4_10 : DV) (b4_11 : DV) (b4_12 : DV) (b4_13 : DV) (b4_14 : DV) (b7_0 : DV) (b7_1 : DV) (b7_2 : DV) (b7_3 : DV) (b7_4 : DV) (b7_5 : DV) (b7_6 : DV) (b7_7 : DV) (b7_8 : DV) (b7_9 : DV) (b7_10 : DV) (b7_11 : DV) (b7_12 : DV) (b7_13 : DV) (b7_14 : DV) (b7_15 : DV) (b8_0 : DV) (b8_1 : DV) (b8_2 : DV) (b8_3 : DV) (b8_4 : DV) (b8_5 : DV) (b8_6 : DV) (b8_7 : DV) (b8_8 : DV) (b8_9 : DV) (b8_10 : DV) (b8_11 : DV) (b8_12 : DV) (b8_13 : DV) (b8_14 : DV) : P_erase_Run_10 R t1 t5 t6 b2_0 b2_1 b2_2 b2_3 b2_4 b2_5 b2_6 b2_7 b2_8 b2_9 b2_10 b2_11 b2_12 b2_13 b2_14 b2_15 b4_0 b4_1 b4_2 b4_3 b4_4 b4_5 b4_6 b4_7 b4_8 b4_9 b4_10 b4_11 b4_12 b4_13 b4_14 b7_0 b7_1 b7_2 b7_3 b7_4 b7_5 b7_6 b7_7 b7_8 b7_9 b7_10 b7_11 b7_12 b7_13 b7_14 b7_15 b8_0 b8_1 b8_2 b8_3 b8_4 b8_5 b8_6 b8_7 b8_8 b8_9 b8_10 b8_11 b8_12 b8_13 b8_14 =
  (ob (dBin .neq b8_0 (.int .i64 0)) fun d1 =>
  oif d1
   (ob (dBin .add t6 (.int .i64 1)) fun d2 =>
   og (isCell d2) <|
   some (.agg [b8_0, b8_1, b8_2, b8_3, b8_4, b8_5, b8_6, b8_7, b8_8, b8_9, b8_10, b8_11, b8_12, b8_13, d2]))
   (ob (dBin .add t6 (.int .i64 1)) fun d3 =>
   P_erase_Run_3h R t1 t5 d3 b7_0 b7_1 b7_2 b7_3 b7_4 b7_5 b7_6 b7_7 b7_8 b7_9 b7_10 b7_11 b7_12 b7_13 b7_14 b7_15 b4_0 b4_1 b4_2 b4_3 b4_4 b4_5 b4_6 b4_7 b4_8 b4_9 b4_10 b4_11 b4_12 b4_13 b4_14)) := evP_of [5, 10] (by kernel_rfl)
theorem fix_erase_Run (x0 : DV) (x1 : DV) : (run cfg).p F_erase_Run [x0, x1] = P_erase_Run (run cfg) x0 x1 :=
  (fix_pure (C := cfg) (f := F_erase_Run) (fn := Try.f21) (c := code_erase_Run) (by kernel_rfl) Try.func21 (by kernel_rfl)).trans (by kernel_rfl)
theorem call_erase_Run (x0 : DV) (x1 : DV) {d : DV} (h : P_erase_Run (run cfg) x0 x1 = some d) : (run cfg).p F_erase_Run [x0, x1] = some d := (fix_erase_Run x0 x1).trans h

noncomputable def code_erase_Value : Code := Try.f22.body.getD .skip
noncomputable def P_erase_Value (R : Orc) (x0 : DV) : Option DV := evP cfg R fl_erase_Value (retP cfg.P Try.f22) [] code_erase_Value (initSt Try.f22 [(x0, .val)] [])
theorem eq_erase_Value (R : Orc) (x0 : DV) : P_erase_Value R x0 =
  (og (isAggN 16 x0) <|
  ob (R.p F_erase_closed [(.agg [(proj 0 x0), (proj 1 x0), (proj 2 x0), (proj 3 x0), (proj 4 x0), (proj 5 x0), (proj 6 x0), (proj 7 x0), (proj 8 x0), (proj 9 x0), (proj 10 x0), (proj 11 x0), (proj 12 x0), (proj 13 x0), (proj 14 x0), (proj 15 x0)])]) fun d1 =>
  ogd d1
   (ob (R.p F_erase_value [(.agg [(proj 0 x0), (proj 1 x0), (proj 2 x0), (proj 3 x0), (proj 4 x0), (proj 5 x0), (proj 6 x0), (proj 7 x0), (proj 8 x0), (proj 9 x0), (proj 10 x0), (proj 11 x0), (proj 12 x0), (proj 13 x0), (proj 14 x0), (proj 15 x0)])]) fun d2 =>
   some d2)
   (some (.bool false))
   none) := evP_of [] (by kernel_rfl)
theorem fix_erase_Value (x0 : DV) : (run cfg).p F_erase_Value [x0] = P_erase_Value (run cfg) x0 :=
  (fix_pure (C := cfg) (f := F_erase_Value) (fn := Try.f22) (c := code_erase_Value) (by kernel_rfl) Try.func22 (by kernel_rfl)).trans (by kernel_rfl)
theorem call_erase_Value (x0 : DV) {d : DV} (h : P_erase_Value (run cfg) x0 = some d) : (run cfg).p F_erase_Value [x0] = some d := (fix_erase_Value x0).trans h

noncomputable def code_r05_Same : Code := Try.f23.body.getD .skip
noncomputable def P_r05_Same (R : Orc) (x0 : DV) (x1 : DV) : Option DV := evP cfg R fl_r05_Same (retP cfg.P Try.f23) [] code_r05_Same (initSt Try.f23 [(x0, .val), (x1, .val)] [])
noncomputable def P_r05_Same_3 (R : Orc) (b2 : DV) (b3 : DV) : Option DV := evP cfg R fl_r05_Same (retP cfg.P Try.f23) [true, true] code_r05_Same ⟨spread .undef 117 0 [], spread .val 117 0 [(2, (.loc 2 0)), (3, (.loc 3 0))], spread none 117 0 [(2, some [((proj 0 b2), .val), ((proj 1 b2), .val), ((proj 2 b2), .val), ((proj 3 b2), .val), ((proj 4 b2), .val), ((proj 5 b2), .val), ((proj 6 b2), .val), ((proj 7 b2), .val), ((proj 8 b2), .val), ((proj 9 b2), .val), ((proj 10 b2), .val), ((proj 11 b2), .val), ((proj 12 b2), .val), ((proj 13 b2), .val), ((proj 14 b2), .val), ((proj 15 b2), .val)]), (3, some [((proj 0 b3), .val), ((proj 1 b3), .val), ((proj 2 b3), .val), ((proj 3 b3), .val), ((proj 4 b3), .val), ((proj 5 b3), .val), ((proj 6 b3), .val), ((proj 7 b3), .val), ((proj 8 b3), .val), ((proj 9 b3), .val), ((proj 10 b3), .val), ((proj 11 b3), .val), ((proj 12 b3), .val), ((proj 13 b3), .val), ((proj 14 b3), .val), ((proj 15 b3), .val)])], []⟩
noncomputable def P_r05_Same_6h (R : Orc) (t5 : DV) (b2 : DV) (b3 : DV) : Option DV := headP cfg R fl_r05_Same (retP cfg.P Try.f23) [true, true, true, false, true, false] code_r05_Same ⟨spread .undef 117 0 [(5, t5)], spread .val 117 0 [(2, (.loc 2 0)), (3, (.loc 3 0))], spread none 117 0 [(2, some [((proj 0 b2), .val), ((proj 1 b2), .val), ((proj 2 b2), .val), ((proj 3 b2), .val), ((proj 4 b2), .val), ((proj 5 b2), .val), ((proj 6 b2), .val), ((proj 7 b2), .val), ((proj 8 b2), .val), ((proj 9 b2), .val), ((proj 10 b2), .val), ((proj 11 b2), .val), ((proj 12 b2), .val), ((proj 13 b2), .val), ((proj 14 b2), .val), ((proj 15 b2), .val)]), (3, some [((proj 0 b3), .val), ((proj 1 b3), .val), ((proj 2 b3), .val), ((proj 3 b3), .val), ((proj 4 b3), .val), ((proj 5 b3), .val), ((proj 6 b3), .val), ((proj 7 b3), .val), ((proj 8 b3), .val), ((proj 9 b3), .val), ((proj 10 b3), .val), ((proj 11 b3), .val), ((proj 12 b3), .val), ((proj 13 b3), .val), ((proj 14 b3), .val), ((proj 15 b3), .val)])], []⟩
noncomputable def P_r05_Same_11h (R : Orc) (t6 : DV) (b2 : DV) (b3 : DV) : Option DV := headP cfg R fl_r05_Same (retP cfg.P Try.f23) [true, true, true, true, false, true, false] code_r05_Same ⟨spread .undef 117 0 [(6, t6)], spread .val 117 0 [(2, (.loc 2 0)), (3, (.loc 3 0))], spread none 117 0 [(2, some [((proj 0 b2), .val), ((proj 1 b2), .val), ((proj 2 b2), .val), ((proj 3 b2), .val), ((proj 4 b2), .val), ((proj 5 b2), .val), ((proj 6 b2), .val), ((proj 7 b2), .val), ((proj 8 b2), .val), ((proj 9 b2), .val), ((proj 10 b2), .val), ((proj 11 b2), .val), ((proj 12 b2), .val), ((proj 13 b2), .val), ((proj 14 b2), .val), ((proj 15 b2), .val)]), (3, some [((proj 0 b3), .val), ((proj 1 b3), .val), ((proj 2 b3), .val), ((proj 3 b3), .val), ((proj 4 b3), .val), ((proj 5 b3), .val), ((proj 6 b3), .val), ((proj 7 b3), .val), ((proj 8 b3), .val), ((proj 9 b3), .val), ((proj 10 b3), .val), ((proj 11 b3), .val), ((proj 12 b3), .val), ((proj 13 b3), .val), ((proj 14 b3), .val), ((proj 15 b3), .val)])], []⟩
set_option maxRecDepth 100000 in
theorem eq_r05_Same (R : Orc) (x0 : DV) (x1 : DV) : P_r05_Same R x0 x1 =
  (og (isAggN 16 x0) <|
  og (isAggN 16 x1) <|
  ob (dBin .neq (proj 0 x0) (proj 0 x1)) fun d1 =>
  ogd d1
   (some (.bool false))
   (ob (dBin .neq (proj 3 x0) (proj 3 x1)) fun d2 =>
   ogd d2
    (some (.bool false))
    (ob (dBin .neq (proj 4 x0) (proj 4 x1)) fun d3 =>
    ogd d3
     (some (.bool false))
     (ob (dBin .neq (proj 5 x0) (proj 5 x1)) fun d4 =>
     ogd d4
      (some (.bool false))
      (ob (dBin .neq (proj 6 x0) (proj 6 x1)) fun d5 =>
      ogd d5
       (some (.bool false))
       (ob (dBin .neq (proj 7 x0) (proj 7 x1)) fun d6 =>
       ogd d6
        (some (.bool false))
        (ob (dLen (proj 14 x0)) fun d7 =>
        ob (dLen (proj 14 x1)) fun d8 =>
        ob (dBin .neq d7 d8) fun d9 =>
        ogd d9
         (some (.bool false))
         (ob (dLen (proj 15 x0)) fun d10 =>
         ob (dLen (proj 15 x1)) fun d11 =>
         ob (dBin .neq d10 d11) fun d12 =>
         oif d12
          (some (.bool false))
          (P_r05_Same_3 R x0 x1))
         none)
        none)
       none)
      none)
     none)
    none)
   none) := evP_of [3] (by kernel_rfl)
theorem eq_r05_Same_3 (R : Orc) (b2 : DV) (b3 : DV) : P_r05_Same_3 R b2 b3 =
  (ob (R.p F_r03_Same [(.agg [(proj 8 b2), (proj 9 b2), (proj 10 b2)]), (.agg [(proj 8 b3), (proj 9 b3), (proj 10 b3)])]) fun d1 =>
  ob (dUn .not d1) fun d2 =>
  ogd d2
   (some (.bool false))
   (ob (R.p F_r03_Same [(.agg [(proj 11 b2), (proj 12 b2), (proj 13 b2)]), (.agg [(proj 11 b3), (proj 12 b3), (proj 13 b3)])]) fun d3 =>
   ob (dUn .not d3) fun d4 =>
   oif d4
    (some (.bool false))
    (P_r05_Same_6h R (.int .i64 0) b2 b3))
   none) := evP_of [3] (by kernel_rfl)
theorem eq_r05_Same_6h (R : Orc) (t5 : DV) (b2 : DV) (b3 : DV) : P_r05_Same_6h R t5 b2 b3 =
  (ob (dLen (proj 14 b2)) fun d1 =>
  ob (dBin .lss t5 d1) fun d2 =>
  oif d2
   (ob (dIdx 7 (proj 14 b2) t5) fun d3 =>
   ob (dIdx 7 (proj 14 b3) t5) fun d4 =>
   ob (R.p F_r05_SamePat [(.agg [(proj 0 d3), (proj 1 d3), (proj 2 d3), (proj 3 d3), (proj 4 d3), (proj 5 d3), (proj 6 d3)]), (.agg [(proj 0 d4), (proj 1 d4), (proj 2 d4), (proj 3 d4), (proj 4 d4), (proj 5 d4), (proj 6 d4)])]) fun d5 =>
   ob (dUn .not d5) fun d6 =>
   oif d6
    (some (.bool false))
    (ob (dBin .add t5 (.int .i64 1)) fun d7 =>
    P_r05_Same_6h R d7 b2 b3))
   (P_r05_Same_11h R (.int .i64 0) b2 b3)) := headP_of [3] (by kernel_rfl)
theorem eq_r05_Same_11h (R : Orc) (t6 : DV) (b2 : DV) (b3 : DV) : P_r05_Same_11h R t6 b2 b3 =
  (ob (dLen (proj 15 b2)) fun d1 =>
  ob (dBin .lss t6 d1) fun d2 =>
  oif d2
   (ob (dIdx 16 (proj 15 b2) t6) fun d3 =>
   ob (dIdx 16 (proj 15 b3) t6) fun d4 =>
   ob (R.p F_r05_Same [(.agg [(proj 0 d3), (proj 1 d3), (proj 2 d3), (proj 3 d3), (proj 4 d3), (proj 5 d3), (proj 6 d3), (proj 7 d3), (proj 8 d3), (proj 9 d3), (proj 10 d3), (proj 11 d3), (proj 12 d3), (proj 13 d3), (proj 14 d3), (proj 15 d3)]), (.agg [(proj 0 d4), (proj 1 d4), (proj 2 d4), (proj 3 d4), (proj 4 d4), (proj 5 d4), (proj 6 d4), (proj 7 d4), (proj 8 d4), (proj 9 d4), (proj 10 d4), (proj 11 d4), (proj 12 d4), (proj 13 d4), (proj 14 d4), (proj 15 d4)])]) fun d5 =>
   ob (dUn .not d5) fun d6 =>
   oif d6
    (some (.bool false))
    (ob (dBin .add t6 (.int .i64 1)) fun d7 =>
    P_r05_Same_11h R d7 b2 b3))
   (some (.bool true))) := headP_of [3] (by kernel_rfl)
theorem fix_r05_Same (x0 : DV) (x1 : DV) : (run cfg).p F_r05_Same [x0, x1] = P_r05_Same (run cfg) x0 x1 :=
  (fix_pure (C := cfg) (f := F_r05_Same) (fn := Try.f23) (c := code_r05_Same) (by kernel_rfl) Try.func23 (by kernel_rfl)).trans (by kernel_rfl)
theorem call_r05_Same (x0 : DV) (x1 : DV) {d : DV} (h : P_r05_Same (run cfg) x0 x1 = some d) : (run cfg).p F_r05_Same [x0, x1] = some d := (fix_r05_Same x0 x1).trans h

noncomputable def code_r05_patAt : Code := Try.f24.body.getD .skip
noncomputable def P_r05_patAt (R : Orc) (x0 : DV) (x1 : DV) : Option DV := evP cfg R fl_r05_patAt (retP cfg.P Try.f24) [] code_r05_patAt (initSt Try.f24 [(x0, .val), (x1, .val)] [])
noncomputable def P_r05_patAt_4h (R : Orc) (t5 : DV) (b2 : DV) (b3 : DV) : Option DV := headP cfg R fl_r05_patAt (retP cfg.P Try.f24) [true, true, false, true, false] code_r05_patAt ⟨spread .undef 30 0 [(5, t5)], spread .val 30 0 [(2, (.loc 2 0)), (3, (.loc 3 0))], spread none 30 0 [(2, some [((proj 0 b2), .val), ((proj 1 b2), .val), ((proj 2 b2), .val), ((proj 3 b2), .val), ((proj 4 b2), .val), ((proj 5 b2), .val), ((proj 6 b2), .val)]), (3, some [((proj 0 b3), .val), ((proj 1 b3), .val), ((proj 2 b3), .val), ((proj 3 b3), .val), ((proj 4 b3), .val), ((proj 5 b3), .val), ((proj 6 b3), .val)])], []⟩
theorem eq_r05_patAt (R : Orc) (x0 : DV) (x1 : DV) : P_r05_patAt R x0 x1 =
  (og (isAggN 7 x0) <|
  og (isAggN 7 x1) <|
  ob (dEqA [.int, .int] (.agg [(proj 1 x0), (proj 2 x0)]) (.agg [(proj 1 x1), (proj 2 x1)])) fun b1 =>
  oif (.bool !b1)
   (some (.bool false))
   (P_r05_patAt_4h R (.int .i64 0) x0 x1)) := evP_of [] (by kernel_rfl)
theorem eq_r05_patAt_4h (R : Orc) (t5 : DV) (b2 : DV) (b3 : DV) : P_r05_patAt_4h R t5 b2 b3 =
  (ob (dLen (proj 6 b2)) fun d1 =>
  ob (dBin .lss t5 d1) fun d2 =>
  oif d2
   (ob (dIdx 7 (proj 6 b2) t5) fun d3 =>
   ob (dIdx 7 (proj 6 b3) t5) fun d4 =>
   ob (R.p F_r05_patAt [(.agg [(proj 0 d3), (proj 1 d3), (proj 2 d3), (proj 3 d3), (proj 4 d3), (proj 5 d3), (proj 6 d3)]), (.agg [(proj 0 d4), (proj 1 d4), (proj 2 d4), (proj 3 d4), (proj 4 d4), (proj 5 d4), (proj 6 d4)])]) fun d5 =>
   ob (dUn .not d5) fun d6 =>
   oif d6
    (some (.bool false))
    (ob (dBin .add t5 (.int .i64 1)) fun d7 =>
    P_r05_patAt_4h R d7 b2 b3))
   (some (.bool true))) := headP_of [] (by kernel_rfl)
theorem fix_r05_patAt (x0 : DV) (x1 : DV) : (run cfg).p F_r05_patAt [x0, x1] = P_r05_patAt (run cfg) x0 x1 :=
  (fix_pure (C := cfg) (f := F_r05_patAt) (fn := Try.f24) (c := code_r05_patAt) (by kernel_rfl) Try.func24 (by kernel_rfl)).trans (by kernel_rfl)
theorem call_r05_patAt (x0 : DV) (x1 : DV) {d : DV} (h : P_r05_patAt (run cfg) x0 x1 = some d) : (run cfg).p F_r05_patAt [x0, x1] = some d := (fix_r05_patAt x0 x1).trans h

noncomputable def code_l05_countType : Code := Try.f25.body.getD .skip
noncomputable def P_l05_countType (R : Orc) (x0 : DV) (x1 : DV) : Option DV := evP cfg R fl_l05_countType (retP cfg.P Try.f25) [] code_l05_countType (initSt Try.f25 [(x0, .val), (x1, .val)] [])
noncomputable def P_l05_countType_2h (R : Orc) (t1 : DV) (t5 : DV) (b2 : DV) : Option DV := headP cfg R fl_l05_countType (retP cfg.P Try.f25) [true, false, true, false] code_l05_countType ⟨spread .undef 26 0 [(1, t1), (5, t5)], spread .val 26 0 [(2, (.loc 2 0))], spread none 26 0 [(2, some [((proj 0 b2), .val), ((proj 1 b2), .val), ((proj 2 b2), .val)])], []⟩
theorem eq_l05_countType (R : Orc) (x0 : DV) (x1 : DV) : P_l05_countType R x0 x1 =
  (og (isAggN 3 x0) <|
  P_l05_countType_2h R x1 (.int .i64 0) x0) := evP_of [] (by kernel_rfl)
theorem eq_l05_countType_2h (R : Orc) (t1 : DV) (t5 : DV) (b2 : DV) : P_l05_countType_2h R t1 t5 b2 =
  (ob (dLen (proj 2 b2)) fun d1 =>
  ob (dBin .lss t5 d1) fun d2 =>
  ogd d2
   (ob (dBin .leq t1 (.int .i64 400)) fun d3 =>
   oif d3
    (ob (dIdx 3 (proj 2 b2) t5) fun d4 =>
    ob (dBin .add t1 (.int .i64 1)) fun d5 =>
    ob (R.p F_l05_countType [(.agg [(proj 0 d4), (proj 1 d4), (proj 2 d4)]), d5]) fun d6 =>
    ob (dBin .add t5 (.int .i64 1)) fun d7 =>
    P_l05_countType_2h R d6 d7 b2)
    (some t1))
   (some t1)
   none) := headP_of [] (by kernel_rfl)
theorem fix_l05_countType (x0 : DV) (x1 : DV) : (run cfg).p F_l05_countType [x0, x1] = P_l05_countType (run cfg) x0 x1 :=
  (fix_pure (C := cfg) (f := F_l05_countType) (fn := Try.f25) (c := code_l05_countType) (by kernel_rfl) Try.func25 (by kernel_rfl)).trans (by kernel_rfl)
theorem call_l05_countType (x0 : DV) (x1 : DV) {d : DV} (h : P_l05_countType (run cfg) x0 x1 = some d) : (run cfg).p F_l05_countType [x0, x1] = some d := (fix_l05_countType x0 x1).trans h

noncomputable def code_l05_countPat : Code := Try.f26.body.getD .skip
noncomputable def P_l05_countPat (R : Orc) (x0 : DV) (x1 : DV) : Option DV := evP cfg R fl_l05_countPat (retP cfg.P Try.f26) [] code_l05_countPat (initSt Try.f26 [(x0, .val), (x1, .val)] [])
noncomputable def P_l05_countPat_4h (R : Orc) (t1 : DV) (t5 : DV) (b2 : DV) : Option DV := headP cfg R fl_l05_countPat (retP cfg.P Try.f26) [true, true, false, true, false] code_l05_countPat ⟨spread .undef 36 0 [(1, t1), (5, t5)], spread .val 36 0 [(2, (.loc 2 0))], spread none 36 0 [(2, some [((proj 0 b2), .val), ((proj 1 b2), .val), ((proj 2 b2), .val), ((proj 3 b2), .val), ((proj 4 b2), .val), ((proj 5 b2), .val), ((proj 6 b2), .val)])], []⟩
theorem eq_l05_countPat (R : Orc) (x0 : DV) (x1 : DV) : P_l05_countPat R x0 x1 =
  (og (isAggN 7 x0) <|
  ob (dLenS (proj 5 x0)) fun d1 =>
  ob (dBin .gtr d1 (.int .i64 300)) fun d2 =>
  ogd d2
   (some (.int .i64 401))
   (ob (dLenS (proj 3 x0)) fun d3 =>
   ob (dBin .gtr d3 (.int .i64 300)) fun d4 =>
   oif d4
    (some (.int .i64 401))
    (P_l05_countPat_4h R x1 (.int .i64 0) x0))
   none) := evP_of [] (by kernel_rfl)
theorem eq_l05_countPat_4h (R : Orc) (t1 : DV) (t5 : DV) (b2 : DV) : P_l05_countPat_4h R t1 t5 b2 =
  (ob (dLen (proj 6 b2)) fun d1 =>
  ob (dBin .lss t5 d1) fun d2 =>
  ogd d2
   (ob (dBin .leq t1 (.int .i64 400)) fun d3 =>
   oif d3
    (ob (dIdx 7 (proj 6 b2) t5) fun d4 =>
    ob (dBin .add t1 (.int .i64 1)) fun d5 =>
    ob (R.p F_l05_countPat [(.agg [(proj 0 d4), (proj 1 d4), (proj 2 d4), (proj 3 d4), (proj 4 d4), (proj 5 d4), (proj 6 d4)]), d5]) fun d6 =>
    ob (dBin .add t5 (.int .i64 1)) fun d7 =>
    P_l05_countPat_4h R d6 d7 b2)
    (some t1))
   (some t1)
   none) := headP_of [] (by kernel_rfl)
theorem fix_l05_countPat (x0 : DV) (x1 : DV) : (run cfg).p F_l05_countPat [x0, x1] = P_l05_countPat (run cfg) x0 x1 :=
  (fix_pure (C := cfg) (f := F_l05_countPat) (fn := Try.f26) (c := code_l05_countPat) (by kernel_rfl) Try.func26 (by kernel_rfl)).trans (by kernel_rfl)
theorem call_l05_countPat (x0 : DV) (x1 : DV) {d : DV} (h : P_l05_countPat (run cfg) x0 x1 = some d) : (run cfg).p F_l05_countPat [x0, x1] = some d := (fix_l05_countPat x0 x1).trans h

noncomputable def code_r05_fields : Code := Try.f27.body.getD .skip
noncomputable def P_r05_fields (R : Orc) (x0 : DV) : Option DV := evP cfg R fl_r05_fields (retP cfg.P Try.f27) [] code_r05_fields (initSt Try.f27 [(x0, .val)] [])
noncomputable def P_r05_fields_20 (R : Orc) (b1 : DV) (b2_0 : DV) (b2_1 : DV) (b2_2 : DV) (b2_3 : DV) (b2_4 : DV) (b2_5 : DV) (b2_6 : DV) (b2_7 : DV) (b2_8 : DV) (b2_9 : DV) (b2_10 : DV) (b2_11 : DV) (b2_12 : DV) (b2_13 : DV) (b2_14 : DV) (b2_15 : DV) (b4_0 : DV) (b4_1 : DV) (b4_2 : DV) (b4_3 : DV) (b4_4 : DV) (b4_5 : DV) (b4_6 : DV) (b4_7 : DV) (b4_8 : DV) (b4_9 : DV) (b4_10 : DV) (b4_11 : DV) (b4_12 : DV) (b4_13 : DV) (b4_14 : DV) (b4_15 : DV) : Option DV := evP cfg R fl_r05_fields (retP cfg.P Try.f27) [true, true, true, false, true, false, true, true, true, true, true, true, true, true, true, true, true, false] code_r05_fields ⟨spread .undef 85 0 [], spread .val 85 0 [(1, (.loc 1 0)), (2, (.loc 2 0)), (4, (.loc 4 0))], spread none 85 0 [(1, some [((proj 0 b1), .val), ((proj 1 b1), .val), ((proj 2 b1), .val), ((proj 3 b1), .val), ((proj 4 b1), .val), ((proj 5 b1), .val), ((proj 6 b1), .val), ((proj 7 b1), .val), ((proj 8 b1), .val), ((proj 9 b1), .val), ((proj 10 b1), .val), ((proj 11 b1), .val), ((proj 12 b1), .val), ((proj 13 b1), .val), ((proj 14 b1), .val), ((proj 15 b1), .val)]), (2, some [(b2_0, .val), (b2_1, .val), (b2_2, .val), (b2_3, .val), (b2_4, .val), (b2_5, .val), (b2_6, .val), (b2_7, .val), (b2_8, .val), (b2_9, .val), (b2_10, .val), (b2_11, .val), (b2_12, .val), (b2_13, .val), (b2_14, .val), (b2_15, .val)]), (4, some [(b4_0, .val), (b4_1, .val), (b4_2, .val), (b4_3, .val), (b4_4, .val), (b4_5, .val), (b4_6, .val), (b4_7, .val), (b4_8, .val), (b4_9, .val), (b4_10, .val), (b4_11, .val), (b4_12, .val), (b4_13, .val), (b4_14, .val), (b4_15, .val)])], []⟩
set_option maxRecDepth 100000 in
theorem eq_r05_fields (R : Orc) (x0 : DV) : P_r05_fields R x0 =
  (og (isAggN 16 x0) <|
  og (isCell (proj 0 x0)) <|
  ob (dBin .eql (proj 0 x0) (.int .i64 1)) fun d1 =>
  oif d1
   (og (isCell (proj 3 x0)) <|
   some (.tup [(.agg [(proj 0 x0), (.int .i64 0), (.int .i64 0), (proj 3 x0), (.str ⟨#[]⟩), (.int .i64 0), (.str ⟨#[]⟩), (.int .i64 0), (.int .i64 0), (.int .i64 0), (.list 3 []), (.int .i64 0), (.int .i64 0), (.list 3 []), (.list 7 []), (.list 16 [])]), (.int .i64 0)]))
   (ob (dBin .eql (proj 0 x0) (.int .i64 2)) fun d2 =>
   oif d2
    (og (isCell (proj 5 x0)) <|
    some (.tup [(.agg [(proj 0 x0), (.int .i64 0), (.int .i64 0), (.str ⟨#[]⟩), (.str ⟨#[]⟩), (proj 5 x0), (.str ⟨#[]⟩), (.int .i64 0), (.int .i64 0), (.int .i64 0), (.list 3 []), (.int .i64 0), (.int .i64 0), (.list 3 []), (.list 7 []), (.list 16 [])]), (.int .i64 0)]))
    (ob (dBin .eql (proj 0 x0) (.int .i64 3)) fun d3 =>
    oif d3
     (og (isCell (proj 5 x0)) <|
     some (.tup [(.agg [(proj 0 x0), (.int .i64 0), (.int .i64 0), (.str ⟨#[]⟩), (.str ⟨#[]⟩), (proj 5 x0), (.str ⟨#[]⟩), (.int .i64 0), (.int .i64 0), (.int .i64 0), (.list 3 []), (.int .i64 0), (.int .i64 0), (.list 3 []), (.list 7 []), (.list 16 [])]), (.int .i64 0)]))
     (ob (dBin .eql (proj 0 x0) (.int .i64 4)) fun d4 =>
     oif d4
      (og (isCell (proj 6 x0)) <|
      some (.tup [(.agg [(proj 0 x0), (.int .i64 0), (.int .i64 0), (.str ⟨#[]⟩), (.str ⟨#[]⟩), (.int .i64 0), (proj 6 x0), (.int .i64 0), (.int .i64 0), (.int .i64 0), (.list 3 []), (.int .i64 0), (.int .i64 0), (.list 3 []), (.list 7 []), (.list 16 [])]), (.int .i64 0)]))
      (ob (dBin .eql (proj 0 x0) (.int .i64 5)) fun d5 =>
      oif d5
       (some (.tup [(.agg [(proj 0 x0), (.int .i64 0), (.int .i64 0), (.str ⟨#[]⟩), (.str ⟨#[]⟩), (.int .i64 0), (.str ⟨#[]⟩), (.int .i64 0), (.int .i64 0), (.int .i64 0), (.list 3 []), (.int .i64 0), (.int .i64 0), (.list 3 []), (.list 7 []), (.list 16 [])]), (.int .i64 0)]))
       (ob (dBin .eql (proj 0 x0) (.int .i64 7)) fun d6 =>
       oif d6
        (some (.tup [(.agg [(proj 0 x0), (.int .i64 0), (.int .i64 0), (.str ⟨#[]⟩), (.str ⟨#[]⟩), (.int .i64 0), (.str ⟨#[]⟩), (.int .i64 0), (.int .i64 0), (.int .i64 0), (.list 3 []), (.int .i64 0), (.int .i64 0), (.list 3 []), (.list 7 []), (.list 16 [])]), (.int .i64 0)]))
        (ob (dBin .eql (proj 0 x0) (.int .i64 6)) fun d7 =>
        oif d7
         (some (.tup [(.agg [(proj 0 x0), (.int .i64 0), (.int .i64 0), (.str ⟨#[]⟩), (.str ⟨#[]⟩), (.int .i64 0), (.str ⟨#[]⟩), (.int .i64 0), (.int .i64 0), (.int .i64 0), (.list 3 []), (.int .i64 0), (.int .i64 0), (.list 3 []), (.list 7 []), (.list 16 [])]), (.int .i64 2)]))
         (ob (dBin .eql (proj 0 x0) (.int .i64 8)) fun d8 =>
         oif d8
          (some (.tup [(.agg [(proj 0 x0), (.int .i64 0), (.int .i64 0), (.str ⟨#[]⟩), (.str ⟨#[]⟩), (.int .i64 0), (.str ⟨#[]⟩), (.int .i64 0), (.int .i64 0), (.int .i64 0), (.list 3 []), (.int .i64 0), (.int .i64 0), (.list 3 []), (.list 7 []), (.list 16 [])]), (.int .i64 2)]))
          (ob (dBin .eql (proj 0 x0) (.int .i64 10)) fun d9 =>
          oif d9
           (some (.tup [(.agg [(proj 0 x0), (.int .i64 0), (.int .i64 0), (.str ⟨#[]⟩), (.str ⟨#[]⟩), (.int .i64 0), (.str ⟨#[]⟩), (.int .i64 0), (.int .i64 0), (.int .i64 0), (.list 3 []), (.int .i64 0), (.int .i64 0), (.list 3 []), (.list 7 []), (.list 16 [])]), (.int .i64 2)]))
           (ob (dBin .eql (proj 0 x0) (.int .i64 9)) fun d10 =>
           oif d10
            (P_r05_fields_20 R x0 (.int .i64 0) (.int .i64 0) (.int .i64 0) (.str ⟨#[]⟩) (.str ⟨#[]⟩) (.int .i64 0) (.str ⟨#[]⟩) (.int .i64 0) (.int .i64 0) (.int .i64 0) (.list 3 []) (.int .i64 0) (.int .i64 0) (.list 3 []) (.list 7 []) (.list 16 []) (proj 0 x0) (.int .i64 0) (.int .i64 0) (.str ⟨#[]⟩) (.str ⟨#[]⟩) (.int .i64 0) (.str ⟨#[]⟩) (.int .i64 0) (.int .i64 0) (.int .i64 0) (.list 3 []) (.int .i64 0) (.int .i64 0) (.list 3 []) (.list 7 []) (.list 16 []))
            (ob (dBin .eql (proj 0 x0) (.int .i64 11)) fun d11 =>
            oif d11
             (P_r05_fields_20 R x0 (.int .i64 0) (.int .i64 0) (.int .i64 0) (.str ⟨#[]⟩) (.str ⟨#[]⟩) (.int .i64 0) (.str ⟨#[]⟩) (.int .i64 0) (.int .i64 0) (.int .i64 0) (.list 3 []) (.int .i64 0) (.int .i64 0) (.list 3 []) (.list 7 []) (.list 16 []) (proj 0 x0) (.int .i64 0) (.int .i64 0) (.str ⟨#[]⟩) (.str ⟨#[]⟩) (.int .i64 0) (.str ⟨#[]⟩) (.int .i64 0) (.int .i64 0) (.int .i64 0) (.list 3 []) (.int .i64 0) (.int .i64 0) (.list 3 []) (.list 7 []) (.list 16 []))
             (ob (dBin .eql (proj 0 x0) (.int .i64 12)) fun d12 =>
             oif d12
              (og (isCell (proj 3 x0)) <|
              og (isCell (proj 4 x0)) <|
              some (.tup [(.agg [(proj 0 x0), (.int .i64 0), (.int .i64 0), (proj 3 x0), (proj 4 x0), (.int .i64 0), (.str ⟨#[]⟩), (.int .i64 0), (proj 8 x0), (proj 9 x0), (proj 10 x0), (proj 11 x0), (proj 12 x0), (proj 13 x0), (.list 7 []), (.list 16 [])]), (.int .i64 2)]))
              (ob (dBin .eql (proj 0 x0) (.int .i64 13)) fun d13 =>
              oif d13
               (some (.tup [(.agg [(proj 0 x0), (.int .i64 0), (.int .i64 0), (.str ⟨#[]⟩), (.str ⟨#[]⟩), (.int .i64 0), (.str ⟨#[]⟩), (.int .i64 0), (.int .i64 0), (.int .i64 0), (.list 3 []), (.int .i64 0), (.int .i64 0), (.list 3 []), (.list 7 []), (.list 16 [])]), (.int .i64 3)]))
               (ob (dBin .eql (proj 0 x0) (.int .i64 14)) fun d14 =>
               oif d14
                (ob (dLen (proj 14 x0)) fun d15 =>
                ob (dBin .add (.int .i64 1) d15) fun d16 =>
                og (isCell (proj 14 x0)) <|
                some (.tup [(.agg [(proj 0 x0), (.int .i64 0), (.int .i64 0), (.str ⟨#[]⟩), (.str ⟨#[]⟩), (.int .i64 0), (.str ⟨#[]⟩), (.int .i64 0), (.int .i64 0), (.int .i64 0), (.list 3 []), (.int .i64 0), (.int .i64 0), (.list 3 []), (proj 14 x0), (.list 16 [])]), d16]))
                (ob (dBin .eql (proj 0 x0) (.int .i64 15)) fun d17 =>
                oif d17
                 (some (.tup [(.agg [(proj 0 x0), (.int .i64 0), (.int .i64 0), (.str ⟨#[]⟩), (.str ⟨#[]⟩), (.int .i64 0), (.str ⟨#[]⟩), (.int .i64 0), (proj 8 x0), (proj 9 x0), (proj 10 x0), (.int .i64 0), (.int .i64 0), (.list 3 []), (.list 7 []), (.list 16 [])]), (.int .i64 1)]))
                 (ob (dBin .eql (proj 0 x0) (.int .i64 16)) fun d18 =>
                 oif d18
                  (og (isCell (proj 7 x0)) <|
                  some (.tup [(.agg [(proj 0 x0), (.int .i64 0), (.int .i64 0), (.str ⟨#[]⟩), (.str ⟨#[]⟩), (.int .i64 0), (.str ⟨#[]⟩), (proj 7 x0), (.int .i64 0), (.int .i64 0), (.list 3 []), (.int .i64 0), (.int .i64 0), (.list 3 []), (.list 7 []), (.list 16 [])]), (.int .i64 2)]))
                  (some (.tup [(.agg [(proj 0 x0), (.int .i64 0), (.int .i64 0), (.str ⟨#[]⟩), (.str ⟨#[]⟩), (.int .i64 0), (.str ⟨#[]⟩), (.int .i64 0), (.int .i64 0), (.int .i64 0), (.list 3 []), (.int .i64 0), (.int .i64 0), (.list 3 []), (.list 7 []), (.list 16 [])]), (.int .i64 (-1))])))))))))))))))))) := evP_of [20] (by kernel_rfl)
theorem eq_r05_fields_20 (R : Orc) (b1 : DV) (b2_0 : DV) (b2_1 : DV) (b2_2 : DV) (b2_3 : DV) (b2_4 : DV) (b2_5 : DV) (b2_6 : DV) (b2_7 : DV) (b2_8 : DV) (b2_9 : DV) (b2_10 : DV) (b2_11 : DV) (b2_12 : DV) (b2_13 : DV) (b2_14 : DV) (b2_15 : DV) (b4_0 : DV) (b4_1 : DV) (b4_2 : DV) (b4_3 : DV) (b4_4 : DV) (b4_5 : DV) (b4_6 : DV) (b4_7 : DV) (b4_8 : DV) (b4_9 : DV) (b4_10 : DV) (b4_11 : DV) (b4_12 : DV) (b4_13 : DV) (b4_14 : DV) (b4_15 : DV) : P_r05_fields_20 R b1 b2_0 b2_1 b2_2 b2_3 b2_4 b2_5 b2_6 b2_7 b2_8 b2_9 b2_10 b2_11 b2_12 b2_13 b2_14 b2_15 b4_0 b4_1 b4_2 b4_3 b4_4 b4_5 b4_6 b4_7 b4_8 b4_9 b4_10 b4_11 b4_12 b4_13 b4_14 b4_15 =
  (og (isCell (proj 3 b1)) <|
  ob (dBin .sub (proj 0 b1) (.int .i64 9)) fun d1 =>
  ob (dBin .quo d1 (.int .i64 2)) fun d2 =>
  ob (dBin .add (.int .i64 1) d2) fun d3 =>
  some (.tup [(.agg [b4_0, b4_1, b4_2, (proj 3 b1), b4_4, b4_5, b4_6, b4_7, (proj 8 b1), (proj 9 b1), (proj 10 b1), b4_11, b4_12, b4_13, b4_14, b4_15]), d3])) := evP_of [20] (by kernel_rfl)
theorem fix_r05_fields (x0 : DV) : (run cfg).p F_r05_fields [x0] = P_r05_fields (run cfg) x0 :=
  (fix_pure (C := cfg) (f := F_r05_fields) (fn := Try.f27) (c := code_r05_fields) (by kernel_rfl) Try.func27 (by kernel_rfl)).trans (by kernel_rfl)
theorem call_r05_fields (x0 : DV) {d : DV} (h : P_r05_fields (run cfg) x0 = some d) : (run cfg).p F_r05_fields [x0] = some d := (fix_r05_fields x0).trans h

end Go.Su

/-
  Equations of the program's functions: by program.
-/
namespace Go.Su
open Go.Proofs
set_option linter.unusedVariables false

noncomputable def code_r03_Same : Code := Try.f28.body.getD .skip
noncomputable def P_r03_Same (R : Orc) (x0 : DV) (x1 : DV) : Option DV := evP cfg R fl_r03_Same (retP cfg.P Try.f28) [] code_r03_Same (initSt Try.f28 [(x0, .val), (x1, .val)] [])
noncomputable def P_r03_Same_4h (R : Orc) (t5 : DV) (b2 : DV) (b3 : DV) : Option DV := headP cfg R fl_r03_Same (retP cfg.P Try.f28) [true, true, false, true, false] code_r03_Same ⟨spread .undef 46 0 [(5, t5)], spread .val 46 0 [(2, (.loc 2 0)), (3, (.loc 3 0))], spread none 46 0 [(2, some [((proj 0 b2), .val), ((proj 1 b2), .val), ((proj 2 b2), .val)]), (3, some [((proj 0 b3), .val), ((proj 1 b3), .val), ((proj 2 b3), .val)])], []⟩
set_option maxRecDepth 100000 in
theorem eq_r03_Same (R : Orc) (x0 : DV) (x1 : DV) : P_r03_Same R x0 x1 =
  (og (isAggN 3 x0) <|
  og (isAggN 3 x1) <|
  ob (dBin .neq (proj 0 x0) (proj 0 x1)) fun d1 =>
  ogd d1
   (some (.bool false))
   (ob (dBin .neq (proj 1 x0) (proj 1 x1)) fun d2 =>
   ogd d2
    (some (.bool false))
    (ob (dLen (proj 2 x0)) fun d3 =>
    ob (dLen (proj 2 x1)) fun d4 =>
    ob (dBin .neq d3 d4) fun d5 =>
    oif d5
     (some (.bool false))
     (P_r03_Same_4h R (.int .i64 0) x0 x1))
    none)
   none) := evP_of [] (by kernel_rfl)
theorem eq_r03_Same_4h (R : Orc) (t5 : DV) (b2 : DV) (b3 : DV) : P_r03_Same_4h R t5 b2 b3 =
  (ob (dLen (proj 2 b2)) fun d1 =>
  ob (dBin .lss t5 d1) fun d2 =>
  oif d2
   (ob (dIdx 3 (proj 2 b2) t5) fun d3 =>
   ob (dIdx 3 (proj 2 b3) t5) fun d4 =>
   ob (R.p F_r03_Same [(.agg [(proj 0 d3), (proj 1 d3), (proj 2 d3)]), (.agg [(proj 0 d4), (proj 1 d4), (proj 2 d4)])]) fun d5 =>
   ob (dUn .not d5) fun d6 =>
   oif d6
    (some (.bool false))
    (ob (dBin .add t5 (.int .i64 1)) fun d7 =>
    P_r03_Same_4h R d7 b2 b3))
   (some (.bool true))) := headP_of [] (by kernel_rfl)
theorem fix_r03_Same (x0 : DV) (x1 : DV) : (run cfg).p F_r03_Same [x0, x1] = P_r03_Same (run cfg) x0 x1 :=
  (fix_pure (C := cfg) (f := F_r03_Same) (fn := Try.f28) (c := code_r03_Same) (by kernel_rfl) Try.func28 (by kernel_rfl)).trans (by kernel_rfl)
theorem call_r03_Same (x0 : DV) (x1 : DV) {d : DV} (h : P_r03_Same (run cfg) x0 x1 = some d) : (run cfg).p F_r03_Same [x0, x1] = some d := (fix_r03_Same x0 x1).trans h

noncomputable def code_r05_note : Code := Try.f29.body.getD .skip
noncomputable def P_r05_note (R : Orc) (x0 : DV) (x1 : DV) : Option DV := evP cfg R fl_r05_note (retP cfg.P Try.f29) [] code_r05_note (initSt Try.f29 [(x0, .val), (x1, .val)] [])
theorem eq_r05_note (R : Orc) (x0 : DV) (x1 : DV) : P_r05_note R x0 x1 =
  (og (isAggN 3 x0) <|
  ob (R.p F_r03_None [(.agg [(proj 0 x0), (proj 1 x0), (proj 2 x0)])]) fun d1 =>
  oif d1
   (some x1)
   (ob (R.p F_r03_Right [(.agg [(proj 0 x0), (proj 1 x0), (proj 2 x0)])]) fun d2 =>
   ogd d2
    (ob (R.p F_r03_Without [(.agg [(proj 0 x0), (proj 1 x0), (proj 2 x0)]), (.int .i64 6)]) fun d3 =>
    some d3)
    (some (.bool false))
    none)) := evP_of [] (by kernel_rfl)
theorem fix_r05_note (x0 : DV) (x1 : DV) : (run cfg).p F_r05_note [x0, x1] = P_r05_note (run cfg) x0 x1 :=
  (fix_pure (C := cfg) (f := F_r05_note) (fn := Try.f29) (c := code_r05_note) (by kernel_rfl) Try.func29 (by kernel_rfl)).trans (by kernel_rfl)
theorem call_r05_note (x0 : DV) (x1 : DV) {d : DV} (h : P_r05_note (run cfg) x0 x1 = some d) : (run cfg).p F_r05_note [x0, x1] = some d := (fix_r05_note x0 x1).trans h

noncomputable def code_r01_Name : Code := Try.f30.body.getD .skip
noncomputable def P_r01_Name (R : Orc) (x0 : DV) : Option DV := evP cfg R fl_r01_Name (retP cfg.P Try.f30) [] code_r01_Name (initSt Try.f30 [(x0, .val)] [])
noncomputable def P_r01_Name_4h (R : Orc) (t0 : DV) (t3 : DV) : Option DV := headP cfg R fl_r01_Name (retP cfg.P Try.f30) [true, true, false, true, false] code_r01_Name ⟨spread .undef 32 0 [(0, t0), (3, t3)], spread .val 32 0 [], spread none 32 0 [], []⟩
theorem eq_r01_Name (R : Orc) (x0 : DV) : P_r01_Name R x0 =
  (ob (dLenS x0) fun d1 =>
  ob (dBin .lss d1 (.int .i64 1)) fun d2 =>
  ogd d2
   (some (.bool false))
   (ob (dLenS x0) fun d3 =>
   ob (dBin .gtr d3 (.int .i64 32)) fun d4 =>
   ogd d4
    (some (.bool false))
    (ob (dStrIdx x0 (.int .i64 0)) fun d5 =>
    ob (R.p F_r01_lower [d5]) fun d6 =>
    ob (dUn .not d6) fun d7 =>
    oif d7
     (some (.bool false))
     (P_r01_Name_4h R x0 (.int .i64 0)))
    none)
   none) := evP_of [] (by kernel_rfl)
theorem eq_r01_Name_4h (R : Orc) (t0 : DV) (t3 : DV) : P_r01_Name_4h R t0 t3 =
  (ob (dLenS t0) fun d1 =>
  ob (dBin .lss t3 d1) fun d2 =>
  oif d2
   (ob (dStrIdx t0 t3) fun d3 =>
   ob (R.p F_r01_part [d3]) fun d4 =>
   ob (dUn .not d4) fun d5 =>
   oif d5
    (some (.bool false))
    (ob (dBin .add t3 (.int .i64 1)) fun d6 =>
    P_r01_Name_4h R t0 d6))
   (ob (R.p F_r01_Key [t0]) fun d7 =>
   ob (dUn .not d7) fun d8 =>
   some d8)) := headP_of [] (by kernel_rfl)
theorem fix_r01_Name (x0 : DV) : (run cfg).p F_r01_Name [x0] = P_r01_Name (run cfg) x0 :=
  (fix_pure (C := cfg) (f := F_r01_Name) (fn := Try.f30) (c := code_r01_Name) (by kernel_rfl) Try.func30 (by kernel_rfl)).trans (by kernel_rfl)
theorem call_r01_Name (x0 : DV) {d : DV} (h : P_r01_Name (run cfg) x0 = some d) : (run cfg).p F_r01_Name [x0] = some d := (fix_r01_Name x0).trans h

noncomputable def code_r05_pat : Code := Try.f31.body.getD .skip
noncomputable def P_r05_pat (R : Orc) (x0 : DV) : Option DV := evP cfg R fl_r05_pat (retP cfg.P Try.f31) [] code_r05_pat (initSt Try.f31 [(x0, .val)] [])
noncomputable def P_r05_pat_25 (R : Orc) (t3 : DV) (b1 : DV) (b4_0 : DV) (b4_1 : DV) (b4_2 : DV) (b4_3 : DV) (b4_4 : DV) (b4_5 : DV) (b4_6 : DV) : Option DV := evP cfg R fl_r05_pat (retP cfg.P Try.f31) [true, true, true, true] code_r05_pat ⟨spread .undef 92 0 [(3, t3)], spread .val 92 0 [(1, (.loc 1 0)), (4, (.loc 4 0))], spread none 92 0 [(1, some [((proj 0 b1), .val), ((proj 1 b1), .val), ((proj 2 b1), .val), ((proj 3 b1), .val), ((proj 4 b1), .val), ((proj 5 b1), .val), ((proj 6 b1), .val)]), (4, some [(b4_0, .val), (b4_1, .val), (b4_2, .val), (b4_3, .val), (b4_4, .val), (b4_5, .val), (b4_6, .val)])], []⟩
noncomputable def P_r05_pat_28h (R : Orc) (t3 : DV) (t5 : DV) (b1 : DV) : Option DV := headP cfg R fl_r05_pat (retP cfg.P Try.f31) [true, true, true, true, true, false, true, false] code_r05_pat ⟨spread .undef 92 0 [(3, t3), (5, t5)], spread .val 92 0 [(1, (.loc 1 0))], spread none 92 0 [(1, some [((proj 0 b1), .val), ((proj 1 b1), .val), ((proj 2 b1), .val), ((proj 3 b1), .val), ((proj 4 b1), .val), ((proj 5 b1), .val), ((proj 6 b1), .val)])], []⟩
set_option maxRecDepth 100000 in
theorem eq_r05_pat (R : Orc) (x0 : DV) : P_r05_pat R x0 =
  (og (isAggN 7 x0) <|
  og (isCell (proj 0 x0)) <|
  ob (dBin .eql (proj 0 x0) (.int .i64 1)) fun d1 =>
  oif d1
   (P_r05_pat_25 R (.int .i64 0) x0 (proj 0 x0) (.int .i64 0) (.int .i64 0) (.str ⟨#[]⟩) (.int .i64 0) (.str ⟨#[]⟩) (.list 7 []))
   (ob (dBin .eql (proj 0 x0) (.int .i64 6)) fun d2 =>
   oif d2
    (P_r05_pat_25 R (.int .i64 0) x0 (proj 0 x0) (.int .i64 0) (.int .i64 0) (.str ⟨#[]⟩) (.int .i64 0) (.str ⟨#[]⟩) (.list 7 []))
    (ob (dBin .eql (proj 0 x0) (.int .i64 8)) fun d3 =>
    oif d3
     (P_r05_pat_25 R (.int .i64 0) x0 (proj 0 x0) (.int .i64 0) (.int .i64 0) (.str ⟨#[]⟩) (.int .i64 0) (.str ⟨#[]⟩) (.list 7 []))
     (ob (dBin .eql (proj 0 x0) (.int .i64 2)) fun d4 =>
     oif d4
      (og (isCell (proj 3 x0)) <|
      ob (R.p F_r01_Name [(proj 3 x0)]) fun d5 =>
      ob (dUn .not d5) fun d6 =>
      oif d6
       (some (.bool false))
       (P_r05_pat_25 R (.int .i64 0) x0 (proj 0 x0) (.int .i64 0) (.int .i64 0) (proj 3 x0) (.int .i64 0) (.str ⟨#[]⟩) (.list 7 [])))
      (ob (dBin .eql (proj 0 x0) (.int .i64 3)) fun d7 =>
      oif d7
       (og (isCell (proj 4 x0)) <|
       P_r05_pat_25 R (.int .i64 0) x0 (proj 0 x0) (.int .i64 0) (.int .i64 0) (.str ⟨#[]⟩) (proj 4 x0) (.str ⟨#[]⟩) (.list 7 []))
       (ob (dBin .eql (proj 0 x0) (.int .i64 4)) fun d8 =>
       oif d8
        (og (isCell (proj 4 x0)) <|
        ob (dBin .lss (proj 4 x0) (.int .i64 0)) fun d9 =>
        ogd d9
         (some (.bool false))
         (ob (dBin .gtr (proj 4 x0) (.int .i64 1)) fun d10 =>
         oif d10
          (some (.bool false))
          (P_r05_pat_25 R (.int .i64 0) x0 (proj 0 x0) (.int .i64 0) (.int .i64 0) (.str ⟨#[]⟩) (proj 4 x0) (.str ⟨#[]⟩) (.list 7 [])))
         none)
        (ob (dBin .eql (proj 0 x0) (.int .i64 5)) fun d11 =>
        oif d11
         (og (isCell (proj 5 x0)) <|
         ob (dLenS (proj 5 x0)) fun d12 =>
         ob (dBin .gtr d12 (.int .i64 200)) fun d13 =>
         oif d13
          (some (.bool false))
          (P_r05_pat_25 R (.int .i64 0) x0 (proj 0 x0) (.int .i64 0) (.int .i64 0) (.str ⟨#[]⟩) (.int .i64 0) (proj 5 x0) (.list 7 [])))
         (ob (dBin .eql (proj 0 x0) (.int .i64 7)) fun d14 =>
         oif d14
          (P_r05_pat_25 R (.int .i64 2) x0 (proj 0 x0) (.int .i64 0) (.int .i64 0) (.str ⟨#[]⟩) (.int .i64 0) (.str ⟨#[]⟩) (.list 7 []))
          (ob (dBin .eql (proj 0 x0) (.int .i64 9)) fun d15 =>
          oif d15
           (P_r05_pat_25 R (.int .i64 2) x0 (proj 0 x0) (.int .i64 0) (.int .i64 0) (.str ⟨#[]⟩) (.int .i64 0) (.str ⟨#[]⟩) (.list 7 []))
           (some (.bool false))))))))))) := evP_of [25] (by kernel_rfl)
set_option maxRecDepth 100000 in
theorem eq_r05_pat_25 (R : Orc) (t3 : DV) (b1 : DV) (b4_0 : DV) (b4_1 : DV) (b4_2 : DV) (b4_3 : DV) (b4_4 : DV) (b4_5 : DV) (b4_6 : DV) : P_r05_pat_25 R t3 b1 b4_0 b4_1 b4_2 b4_3 b4_4 b4_5 b4_6 =
  (ob (dLen (proj 6 b1)) fun d1 =>
  ob (dBin .neq d1 t3) fun d2 =>
  ogd d2
   (some (.bool false))
   (ob (dBin .neq (proj 3 b1) b4_3) fun d3 =>
   ogd d3
    (some (.bool false))
    (ob (dBin .neq (proj 4 b1) b4_4) fun d4 =>
    ogd d4
     (some (.bool false))
     (ob (dBin .neq (proj 5 b1) b4_5) fun d5 =>
     oif d5
      (some (.bool false))
      (P_r05_pat_28h R t3 (.int .i64 0) b1))
     none)
    none)
   none) := evP_of [25] (by kernel_rfl)
theorem eq_r05_pat_28h (R : Orc) (t3 : DV) (t5 : DV) (b1 : DV) : P_r05_pat_28h R t3 t5 b1 =
  (ob (dBin .lss t5 t3) fun d1 =>
  oif d1
   (ob (dIdx 7 (proj 6 b1) t5) fun d2 =>
   ob (R.p F_r05_pat [(.agg [(proj 0 d2), (proj 1 d2), (proj 2 d2), (proj 3 d2), (proj 4 d2), (proj 5 d2), (proj 6 d2)])]) fun d3 =>
   ob (dUn .not d3) fun d4 =>
   oif d4
    (some (.bool false))
    (ob (dBin .add t5 (.int .i64 1)) fun d5 =>
    P_r05_pat_28h R t3 d5 b1))
   (some (.bool true))) := headP_of [25] (by kernel_rfl)
theorem fix_r05_pat (x0 : DV) : (run cfg).p F_r05_pat [x0] = P_r05_pat (run cfg) x0 :=
  (fix_pure (C := cfg) (f := F_r05_pat) (fn := Try.f31) (c := code_r05_pat) (by kernel_rfl) Try.func31 (by kernel_rfl)).trans (by kernel_rfl)
theorem call_r05_pat (x0 : DV) {d : DV} (h : P_r05_pat (run cfg) x0 = some d) : (run cfg).p F_r05_pat [x0] = some d := (fix_r05_pat x0).trans h

noncomputable def code_r05_Names : Code := Try.f32.body.getD .skip
noncomputable def P_r05_Names (R : Orc) (x0 : DV) : Option DV := evP cfg R fl_r05_Names (retP cfg.P Try.f32) [] code_r05_Names (initSt Try.f32 [(x0, .val)] [])
theorem eq_r05_Names (R : Orc) (x0 : DV) : P_r05_Names R x0 =
  (og (isAggN 7 x0) <|
  ob (R.r F_r05_names [((.agg [(proj 0 x0), (proj 1 x0), (proj 2 x0), (proj 3 x0), (proj 4 x0), (proj 5 x0), (proj 6 x0)]), .val), ((.list 1 []), .own)] []) fun q1 =>
  some (q1.1.getD 0 .undef)) := evP_of [] (by kernel_rfl)
theorem fix_r05_Names (x0 : DV) : (run cfg).p F_r05_Names [x0] = P_r05_Names (run cfg) x0 :=
  (fix_pure (C := cfg) (f := F_r05_Names) (fn := Try.f32) (c := code_r05_Names) (by kernel_rfl) Try.func32 (by kernel_rfl)).trans (by kernel_rfl)
theorem call_r05_Names (x0 : DV) {d : DV} (h : P_r05_Names (run cfg) x0 = some d) : (run cfg).p F_r05_Names [x0] = some d := (fix_r05_Names x0).trans h

noncomputable def code_r05_Has : Code := Try.f33.body.getD .skip
noncomputable def P_r05_Has (R : Orc) (x0 : DV) (x1 : DV) : Option DV := evP cfg R fl_r05_Has (retP cfg.P Try.f33) [] code_r05_Has (initSt Try.f33 [(x0, .val), (x1, .val)] [])
noncomputable def P_r05_Has_2h (R : Orc) (t0 : DV) (t1 : DV) (t5 : DV) : Option DV := headP cfg R fl_r05_Has (retP cfg.P Try.f33) [true, false, true, false] code_r05_Has ⟨spread .undef 18 0 [(0, t0), (1, t1), (5, t5)], spread .val 18 0 [], spread none 18 0 [], []⟩
theorem eq_r05_Has (R : Orc) (x0 : DV) (x1 : DV) : P_r05_Has R x0 x1 =
  (P_r05_Has_2h R x0 x1 (.int .i64 0)) := evP_of [] (by kernel_rfl)
theorem eq_r05_Has_2h (R : Orc) (t0 : DV) (t1 : DV) (t5 : DV) : P_r05_Has_2h R t0 t1 t5 =
  (ob (dLen t0) fun d1 =>
  ob (dBin .lss t5 d1) fun d2 =>
  oif d2
   (ob (dIdx 1 t0 t5) fun d3 =>
   og (isLeaf d3) <|
   ob (dBin .eql d3 t1) fun d4 =>
   oif d4
    (some (.bool true))
    (ob (dBin .add t5 (.int .i64 1)) fun d5 =>
    P_r05_Has_2h R t0 t1 d5))
   (some (.bool false))) := headP_of [] (by kernel_rfl)
theorem fix_r05_Has (x0 : DV) (x1 : DV) : (run cfg).p F_r05_Has [x0, x1] = P_r05_Has (run cfg) x0 x1 :=
  (fix_pure (C := cfg) (f := F_r05_Has) (fn := Try.f33) (c := code_r05_Has) (by kernel_rfl) Try.func33 (by kernel_rfl)).trans (by kernel_rfl)
theorem call_r05_Has (x0 : DV) (x1 : DV) {d : DV} (h : P_r05_Has (run cfg) x0 x1 = some d) : (run cfg).p F_r05_Has [x0, x1] = some d := (fix_r05_Has x0 x1).trans h

noncomputable def code_r05_Rise : Code := Try.f34.body.getD .skip
noncomputable def P_r05_Rise (R : Orc) (x0 : DV) (x1 : DV) : Option DV := evP cfg R fl_r05_Rise (retP cfg.P Try.f34) [] code_r05_Rise (initSt Try.f34 [(x0, .val), (x1, .val)] [])
noncomputable def P_r05_Rise_2h (R : Orc) (t0 : DV) (t1 : DV) (t5 : DV) : Option DV := headP cfg R fl_r05_Rise (retP cfg.P Try.f34) [true, true, false, false] code_r05_Rise ⟨spread .undef 47 0 [(0, t0), (1, t1), (5, t5)], spread .val 47 0 [], spread none 47 0 [], []⟩
noncomputable def P_r05_Rise_4 (R : Orc) (t0 : DV) (t1 : DV) (t5 : DV) : Option DV := evP cfg R fl_r05_Rise (retP cfg.P Try.f34) [true, true, true] code_r05_Rise ⟨spread .undef 47 0 [(0, t0), (1, t1), (5, t5)], spread .val 47 0 [], spread none 47 0 [], []⟩
noncomputable def P_r05_Rise_6 (R : Orc) (t0 : DV) (t1 : DV) (t5 : DV) : Option DV := evP cfg R fl_r05_Rise (retP cfg.P Try.f34) [true, true, true, true] code_r05_Rise ⟨spread .undef 47 0 [(0, t0), (1, t1), (5, t5)], spread .val 47 0 [], spread none 47 0 [], []⟩
theorem eq_r05_Rise (R : Orc) (x0 : DV) (x1 : DV) : P_r05_Rise R x0 x1 =
  (P_r05_Rise_2h R x0 x1 (.int .i64 0)) := evP_of [4, 6] (by kernel_rfl)
theorem eq_r05_Rise_2h (R : Orc) (t0 : DV) (t1 : DV) (t5 : DV) : P_r05_Rise_2h R t0 t1 t5 =
  (ob (dLen t0) fun d1 =>
  ob (dBin .lss t5 d1) fun d2 =>
  ogd d2
   (ob (dIdx 1 t0 t5) fun d3 =>
   og (isLeaf d3) <|
   ob (dBin .lss d3 t1) fun d4 =>
   oif d4
    (ob (dBin .add t5 (.int .i64 1)) fun d5 =>
    P_r05_Rise_2h R t0 t1 d5)
    (P_r05_Rise_4 R t0 t1 t5))
   (P_r05_Rise_4 R t0 t1 t5)
   none) := headP_of [4, 6] (by kernel_rfl)
theorem eq_r05_Rise_4 (R : Orc) (t0 : DV) (t1 : DV) (t5 : DV) : P_r05_Rise_4 R t0 t1 t5 =
  (ob (dLen t0) fun d1 =>
  ob (dBin .lss t5 d1) fun d2 =>
  ogd d2
   (ob (dIdx 1 t0 t5) fun d3 =>
   og (isLeaf d3) <|
   ob (dBin .eql d3 t1) fun d4 =>
   oif d4
    (some t0)
    (P_r05_Rise_6 R t0 t1 t5))
   (P_r05_Rise_6 R t0 t1 t5)
   none) := evP_of [4, 6] (by kernel_rfl)
theorem eq_r05_Rise_6 (R : Orc) (t0 : DV) (t1 : DV) (t5 : DV) : P_r05_Rise_6 R t0 t1 t5 =
  (ob (dSlice 1 t0 none (some t5)) fun d1 =>
  ob (dApp 1 (.list 1 []) d1) fun d2 =>
  og (isCell t1) <|
  ob (dApp 1 d2 (.list 1 [t1])) fun d3 =>
  ob (dSlice 1 t0 (some t5) none) fun d4 =>
  ob (dApp 1 d3 d4) fun d5 =>
  some d5) := evP_of [4, 6] (by kernel_rfl)
theorem fix_r05_Rise (x0 : DV) (x1 : DV) : (run cfg).p F_r05_Rise [x0, x1] = P_r05_Rise (run cfg) x0 x1 :=
  (fix_pure (C := cfg) (f := F_r05_Rise) (fn := Try.f34) (c := code_r05_Rise) (by kernel_rfl) Try.func34 (by kernel_rfl)).trans (by kernel_rfl)
theorem call_r05_Rise (x0 : DV) (x1 : DV) {d : DV} (h : P_r05_Rise (run cfg) x0 x1 = some d) : (run cfg).p F_r05_Rise [x0, x1] = some d := (fix_r05_Rise x0 x1).trans h

noncomputable def code_r05_Binds : Code := Try.f35.body.getD .skip
noncomputable def P_r05_Binds (R : Orc) (x0 : DV) (x1 : DV) : Option DV := evP cfg R fl_r05_Binds (retP cfg.P Try.f35) [] code_r05_Binds (initSt Try.f35 [(x0, .val), (x1, .val)] [])
noncomputable def P_r05_Binds_5 (R : Orc) (t1 : DV) (b2 : DV) : Option DV := evP cfg R fl_r05_Binds (retP cfg.P Try.f35) [true, false, false, true, true] code_r05_Binds ⟨spread .undef 50 0 [(1, t1)], spread .val 50 0 [(2, (.loc 2 0))], spread none 50 0 [(2, some [((proj 0 b2), .val), ((proj 1 b2), .val), ((proj 2 b2), .val), ((proj 3 b2), .val), ((proj 4 b2), .val), ((proj 5 b2), .val), ((proj 6 b2), .val), ((proj 7 b2), .val), ((proj 8 b2), .val), ((proj 9 b2), .val), ((proj 10 b2), .val), ((proj 11 b2), .val), ((proj 12 b2), .val), ((proj 13 b2), .val), ((proj 14 b2), .val), ((proj 15 b2), .val)])], []⟩
set_option maxRecDepth 100000 in
theorem eq_r05_Binds (R : Orc) (x0 : DV) (x1 : DV) : P_r05_Binds R x0 x1 =
  (og (isAggN 16 x0) <|
  ob (dBin .eql (proj 0 x0) (.int .i64 9)) fun d1 =>
  oif d1
   (og (isCell (proj 3 x0)) <|
   some (.list 1 [(proj 3 x0)]))
   (ob (dBin .eql (proj 0 x0) (.int .i64 11)) fun d2 =>
   ogd d2
    (ob (dBin .eql x1 (.int .i64 1)) fun d3 =>
    oif d3
     (og (isCell (proj 3 x0)) <|
     some (.list 1 [(proj 3 x0)]))
     (ob (dBin .eql (proj 0 x0) (.int .i64 12)) fun d4 =>
     ogd d4
      (ob (dBin .eql x1 (.int .i64 1)) fun d5 =>
      oif d5
       (og (isCell (proj 3 x0)) <|
       some (.list 1 [(proj 3 x0)]))
       (P_r05_Binds_5 R x1 x0))
      (P_r05_Binds_5 R x1 x0)
      none))
    (ob (dBin .eql (proj 0 x0) (.int .i64 12)) fun d6 =>
    ogd d6
     (ob (dBin .eql x1 (.int .i64 1)) fun d7 =>
     oif d7
      (og (isCell (proj 3 x0)) <|
      some (.list 1 [(proj 3 x0)]))
      (P_r05_Binds_5 R x1 x0))
     (P_r05_Binds_5 R x1 x0)
     none)
    none)) := evP_of [5] (by kernel_rfl)
theorem eq_r05_Binds_5 (R : Orc) (t1 : DV) (b2 : DV) : P_r05_Binds_5 R t1 b2 =
  (ob (dBin .eql (proj 0 b2) (.int .i64 12)) fun d1 =>
  oif d1
   (og (isCell (proj 3 b2)) <|
   og (isCell (proj 4 b2)) <|
   some (.list 1 [(proj 3 b2), (proj 4 b2)]))
   (ob (dBin .eql (proj 0 b2) (.int .i64 14)) fun d2 =>
   ogd d2
    (ob (dBin .gtr t1 (.int .i64 0)) fun d3 =>
    oif d3
     (ob (dBin .sub t1 (.int .i64 1)) fun d4 =>
     ob (dIdx 7 (proj 14 b2) d4) fun d5 =>
     ob (R.p F_r05_Names [(.agg [(proj 0 d5), (proj 1 d5), (proj 2 d5), (proj 3 d5), (proj 4 d5), (proj 5 d5), (proj 6 d5)])]) fun d6 =>
     some d6)
     (some (.list 1 [])))
    (some (.list 1 []))
    none)) := evP_of [5] (by kernel_rfl)
theorem fix_r05_Binds (x0 : DV) (x1 : DV) : (run cfg).p F_r05_Binds [x0, x1] = P_r05_Binds (run cfg) x0 x1 :=
  (fix_pure (C := cfg) (f := F_r05_Binds) (fn := Try.f35) (c := code_r05_Binds) (by kernel_rfl) Try.func35 (by kernel_rfl)).trans (by kernel_rfl)
theorem call_r05_Binds (x0 : DV) (x1 : DV) {d : DV} (h : P_r05_Binds (run cfg) x0 x1 = some d) : (run cfg).p F_r05_Binds [x0, x1] = some d := (fix_r05_Binds x0 x1).trans h

noncomputable def code_tree_one : Code := Try.f37.body.getD .skip
noncomputable def P_tree_one (R : Orc) (x0 : DV) : Option DV := evP cfg R fl_tree_one (retP cfg.P Try.f37) [] code_tree_one (initSt Try.f37 [(x0, .val)] [])
noncomputable def P_tree_one_4 (R : Orc) (b1 : DV) (b3 : DV) : Option DV := evP cfg R fl_tree_one (retP cfg.P Try.f37) [true, true, false, false, true, true] code_tree_one ⟨spread .undef 186 0 [], spread .val 186 0 [(1, (.loc 1 0)), (3, (.loc 3 0))], spread none 186 0 [(1, some [((proj 0 b1), .val), ((proj 1 b1), .val), ((proj 2 b1), .val), ((proj 3 b1), .val), ((proj 4 b1), .val), ((proj 5 b1), .val), ((proj 6 b1), .val), ((proj 7 b1), .val), ((proj 8 b1), .val), ((proj 9 b1), .val), ((proj 10 b1), .val), ((proj 11 b1), .val), ((proj 12 b1), .val), ((proj 13 b1), .val), ((proj 14 b1), .val), ((proj 15 b1), .val)]), (3, some [((proj 0 b3), .val), ((proj 1 b3), .val), ((proj 2 b3), .val), ((proj 3 b3), .val), ((proj 4 b3), .val), ((proj 5 b3), .val), ((proj 6 b3), .val), ((proj 7 b3), .val), ((proj 8 b3), .val)])], []⟩
noncomputable def P_tree_one_6 (R : Orc) (b1 : DV) (b3 : DV) : Option DV := evP cfg R fl_tree_one (retP cfg.P Try.f37) [true, true, false, false, true, true, true, true] code_tree_one ⟨spread .undef 186 0 [], spread .val 186 0 [(1, (.loc 1 0)), (3, (.loc 3 0))], spread none 186 0 [(1, some [((proj 0 b1), .val), ((proj 1 b1), .val), ((proj 2 b1), .val), ((proj 3 b1), .val), ((proj 4 b1), .val), ((proj 5 b1), .val), ((proj 6 b1), .val), ((proj 7 b1), .val), ((proj 8 b1), .val), ((proj 9 b1), .val), ((proj 10 b1), .val), ((proj 11 b1), .val), ((proj 12 b1), .val), ((proj 13 b1), .val), ((proj 14 b1), .val), ((proj 15 b1), .val)]), (3, some [((proj 0 b3), .val), ((proj 1 b3), .val), ((proj 2 b3), .val), ((proj 3 b3), .val), ((proj 4 b3), .val), ((proj 5 b3), .val), ((proj 6 b3), .val), ((proj 7 b3), .val), ((proj 8 b3), .val)])], []⟩
noncomputable def P_tree_one_8 (R : Orc) (b1 : DV) (b3 : DV) : Option DV := evP cfg R fl_tree_one (retP cfg.P Try.f37) [true, true, false, false, true, true, true, true, true, true] code_tree_one ⟨spread .undef 186 0 [], spread .val 186 0 [(1, (.loc 1 0)), (3, (.loc 3 0))], spread none 186 0 [(1, some [((proj 0 b1), .val), ((proj 1 b1), .val), ((proj 2 b1), .val), ((proj 3 b1), .val), ((proj 4 b1), .val), ((proj 5 b1), .val), ((proj 6 b1), .val), ((proj 7 b1), .val), ((proj 8 b1), .val), ((proj 9 b1), .val), ((proj 10 b1), .val), ((proj 11 b1), .val), ((proj 12 b1), .val), ((proj 13 b1), .val), ((proj 14 b1), .val), ((proj 15 b1), .val)]), (3, some [((proj 0 b3), .val), ((proj 1 b3), .val), ((proj 2 b3), .val), ((proj 3 b3), .val), ((proj 4 b3), .val), ((proj 5 b3), .val), ((proj 6 b3), .val), ((proj 7 b3), .val), ((proj 8 b3), .val)])], []⟩
noncomputable def P_tree_one_10 (R : Orc) (b1 : DV) (b3 : DV) : Option DV := evP cfg R fl_tree_one (retP cfg.P Try.f37) [true, true, false, false, true, true, true, true, true, true, true, true] code_tree_one ⟨spread .undef 186 0 [], spread .val 186 0 [(1, (.loc 1 0)), (3, (.loc 3 0))], spread none 186 0 [(1, some [((proj 0 b1), .val), ((proj 1 b1), .val), ((proj 2 b1), .val), ((proj 3 b1), .val), ((proj 4 b1), .val), ((proj 5 b1), .val), ((proj 6 b1), .val), ((proj 7 b1), .val), ((proj 8 b1), .val), ((proj 9 b1), .val), ((proj 10 b1), .val), ((proj 11 b1), .val), ((proj 12 b1), .val), ((proj 13 b1), .val), ((proj 14 b1), .val), ((proj 15 b1), .val)]), (3, some [((proj 0 b3), .val), ((proj 1 b3), .val), ((proj 2 b3), .val), ((proj 3 b3), .val), ((proj 4 b3), .val), ((proj 5 b3), .val), ((proj 6 b3), .val), ((proj 7 b3), .val), ((proj 8 b3), .val)])], []⟩
noncomputable def P_tree_one_12 (R : Orc) (b1 : DV) (b3 : DV) : Option DV := evP cfg R fl_tree_one (retP cfg.P Try.f37) [true, true, false, false, true, true, true, true, true, true, true, true, true, true] code_tree_one ⟨spread .undef 186 0 [], spread .val 186 0 [(1, (.loc 1 0)), (3, (.loc 3 0))], spread none 186 0 [(1, some [((proj 0 b1), .val), ((proj 1 b1), .val), ((proj 2 b1), .val), ((proj 3 b1), .val), ((proj 4 b1), .val), ((proj 5 b1), .val), ((proj 6 b1), .val), ((proj 7 b1), .val), ((proj 8 b1), .val), ((proj 9 b1), .val), ((proj 10 b1), .val), ((proj 11 b1), .val), ((proj 12 b1), .val), ((proj 13 b1), .val), ((proj 14 b1), .val), ((proj 15 b1), .val)]), (3, some [((proj 0 b3), .val), ((proj 1 b3), .val), ((proj 2 b3), .val), ((proj 3 b3), .val), ((proj 4 b3), .val), ((proj 5 b3), .val), ((proj 6 b3), .val), ((proj 7 b3), .val), ((proj 8 b3), .val)])], []⟩
noncomputable def P_tree_one_14 (R : Orc) (b1 : DV) (b3 : DV) : Option DV := evP cfg R fl_tree_one (retP cfg.P Try.f37) [true, true, false, false, true, true, true, true, true, true, true, true, true, true, true, true] code_tree_one ⟨spread .undef 186 0 [], spread .val 186 0 [(1, (.loc 1 0)), (3, (.loc 3 0))], spread none 186 0 [(1, some [((proj 0 b1), .val), ((proj 1 b1), .val), ((proj 2 b1), .val), ((proj 3 b1), .val), ((proj 4 b1), .val), ((proj 5 b1), .val), ((proj 6 b1), .val), ((proj 7 b1), .val), ((proj 8 b1), .val), ((proj 9 b1), .val), ((proj 10 b1), .val), ((proj 11 b1), .val), ((proj 12 b1), .val), ((proj 13 b1), .val), ((proj 14 b1), .val), ((proj 15 b1), .val)]), (3, some [((proj 0 b3), .val), ((proj 1 b3), .val), ((proj 2 b3), .val), ((proj 3 b3), .val), ((proj 4 b3), .val), ((proj 5 b3), .val), ((proj 6 b3), .val), ((proj 7 b3), .val), ((proj 8 b3), .val)])], []⟩
noncomputable def P_tree_one_16 (R : Orc) (b1 : DV) (b3 : DV) : Option DV := evP cfg R fl_tree_one (retP cfg.P Try.f37) [true, true, false, false, true, true, true, true, true, true, true, true, true, true, true, true, true, true] code_tree_one ⟨spread .undef 186 0 [], spread .val 186 0 [(1, (.loc 1 0)), (3, (.loc 3 0))], spread none 186 0 [(1, some [((proj 0 b1), .val), ((proj 1 b1), .val), ((proj 2 b1), .val), ((proj 3 b1), .val), ((proj 4 b1), .val), ((proj 5 b1), .val), ((proj 6 b1), .val), ((proj 7 b1), .val), ((proj 8 b1), .val), ((proj 9 b1), .val), ((proj 10 b1), .val), ((proj 11 b1), .val), ((proj 12 b1), .val), ((proj 13 b1), .val), ((proj 14 b1), .val), ((proj 15 b1), .val)]), (3, some [((proj 0 b3), .val), ((proj 1 b3), .val), ((proj 2 b3), .val), ((proj 3 b3), .val), ((proj 4 b3), .val), ((proj 5 b3), .val), ((proj 6 b3), .val), ((proj 7 b3), .val), ((proj 8 b3), .val)])], []⟩
noncomputable def P_tree_one_18 (R : Orc) (b1 : DV) : Option DV := evP cfg R fl_tree_one (retP cfg.P Try.f37) [true, true, true] code_tree_one ⟨spread .undef 186 0 [], spread .val 186 0 [(1, (.loc 1 0))], spread none 186 0 [(1, some [((proj 0 b1), .val), ((proj 1 b1), .val), ((proj 2 b1), .val), ((proj 3 b1), .val), ((proj 4 b1), .val), ((proj 5 b1), .val), ((proj 6 b1), .val), ((proj 7 b1), .val), ((proj 8 b1), .val), ((proj 9 b1), .val), ((proj 10 b1), .val), ((proj 11 b1), .val), ((proj 12 b1), .val), ((proj 13 b1), .val), ((proj 14 b1), .val), ((proj 15 b1), .val)])], []⟩
noncomputable def P_tree_one_19h (R : Orc) (t176 : DV) (t177 : DV) (t178 : DV) : Option DV := headP cfg R fl_tree_one (retP cfg.P Try.f37) [true, true, true, false, true, false] code_tree_one ⟨spread .undef 186 0 [(176, t176), (177, t177), (178, t178)], spread .val 186 0 [], spread none 186 0 [], []⟩
set_option maxRecDepth 100000 in
theorem eq_tree_one (R : Orc) (x0 : DV) : P_tree_one R x0 =
  (og (isAggN 16 x0) <|
  ob (R.p F_tree_shapeOf [(.agg [(proj 0 x0), (proj 1 x0), (proj 2 x0), (proj 3 x0), (proj 4 x0), (proj 5 x0), (proj 6 x0), (proj 7 x0), (proj 8 x0), (proj 9 x0), (proj 10 x0), (proj 11 x0), (proj 12 x0), (proj 13 x0), (proj 14 x0), (proj 15 x0)])]) fun d1 =>
  ob (dExt 0 d1) fun d2 =>
  ob (dExt 1 d1) fun d3 =>
  og (isAggN 9 d2) <|
  ob (dUn .not d3) fun d4 =>
  ogd d4
   (some (.bool false))
   (ob (dLen (proj 15 x0)) fun d5 =>
   ob (dBin .neq d5 (proj 8 d2)) fun d6 =>
   ogd d6
    (some (.bool false))
    (ob (dBin .neq (proj 0 x0) (.int .i64 14)) fun d7 =>
    ogd d7
     (ob (dLen (proj 14 x0)) fun d8 =>
     ob (dBin .gtr d8 (.int .i64 0)) fun d9 =>
     oif d9
      (some (.bool false))
      (P_tree_one_4 R x0 d2))
     (P_tree_one_4 R x0 d2)
     none)
    none)
   none) := evP_of [4, 6, 8, 10, 12, 14, 16, 18] (by kernel_rfl)
set_option maxRecDepth 100000 in
theorem eq_tree_one_4 (R : Orc) (b1 : DV) (b3 : DV) : P_tree_one_4 R b1 b3 =
  (ogd (proj 0 b3)
   (ob (R.p F_word_Name [(proj 3 b1)]) fun d1 =>
   ob (dUn .not d1) fun d2 =>
   ogd d2
    (some (.bool false))
    (ob (dUn .not (proj 0 b3)) fun d3 =>
    ogd d3
     (ob (dBin .neq (proj 3 b1) (.str ⟨#[]⟩)) fun d4 =>
     oif d4
      (some (.bool false))
      (P_tree_one_6 R b1 b3))
     (P_tree_one_6 R b1 b3)
     none)
    none)
   (ob (dUn .not (proj 0 b3)) fun d5 =>
   ogd d5
    (ob (dBin .neq (proj 3 b1) (.str ⟨#[]⟩)) fun d6 =>
    oif d6
     (some (.bool false))
     (P_tree_one_6 R b1 b3))
    (P_tree_one_6 R b1 b3)
    none)
   none) := evP_of [4, 6, 8, 10, 12, 14, 16, 18] (by kernel_rfl)
set_option maxRecDepth 100000 in
theorem eq_tree_one_6 (R : Orc) (b1 : DV) (b3 : DV) : P_tree_one_6 R b1 b3 =
  (ogd (proj 1 b3)
   (ob (R.p F_word_Name [(proj 4 b1)]) fun d1 =>
   ob (dUn .not d1) fun d2 =>
   ogd d2
    (some (.bool false))
    (ob (dUn .not (proj 1 b3)) fun d3 =>
    ogd d3
     (ob (dBin .neq (proj 4 b1) (.str ⟨#[]⟩)) fun d4 =>
     oif d4
      (some (.bool false))
      (P_tree_one_8 R b1 b3))
     (P_tree_one_8 R b1 b3)
     none)
    none)
   (ob (dUn .not (proj 1 b3)) fun d5 =>
   ogd d5
    (ob (dBin .neq (proj 4 b1) (.str ⟨#[]⟩)) fun d6 =>
    oif d6
     (some (.bool false))
     (P_tree_one_8 R b1 b3))
    (P_tree_one_8 R b1 b3)
    none)
   none) := evP_of [4, 6, 8, 10, 12, 14, 16, 18] (by kernel_rfl)
set_option maxRecDepth 100000 in
theorem eq_tree_one_8 (R : Orc) (b1 : DV) (b3 : DV) : P_tree_one_8 R b1 b3 =
  (ob (dUn .not (proj 2 b3)) fun d1 =>
  ogd d1
   (ob (dBin .neq (proj 5 b1) (.int .i64 0)) fun d2 =>
   ogd d2
    (some (.bool false))
    (ob (dBin .eql (proj 0 b1) (.int .i64 3)) fun d3 =>
    ogd d3
     (ob (dBin .neq (proj 5 b1) (.int .i64 0)) fun d4 =>
     ogd d4
      (ob (dBin .neq (proj 5 b1) (.int .i64 1)) fun d5 =>
      oif d5
       (some (.bool false))
       (P_tree_one_10 R b1 b3))
      (P_tree_one_10 R b1 b3)
      none)
     (P_tree_one_10 R b1 b3)
     none)
    none)
   (ob (dBin .eql (proj 0 b1) (.int .i64 3)) fun d6 =>
   ogd d6
    (ob (dBin .neq (proj 5 b1) (.int .i64 0)) fun d7 =>
    ogd d7
     (ob (dBin .neq (proj 5 b1) (.int .i64 1)) fun d8 =>
     oif d8
      (some (.bool false))
      (P_tree_one_10 R b1 b3))
     (P_tree_one_10 R b1 b3)
     none)
    (P_tree_one_10 R b1 b3)
    none)
   none) := evP_of [4, 6, 8, 10, 12, 14, 16, 18] (by kernel_rfl)
theorem eq_tree_one_10 (R : Orc) (b1 : DV) (b3 : DV) : P_tree_one_10 R b1 b3 =
  (ob (dUn .not (proj 3 b3)) fun d1 =>
  ogd d1
   (ob (dBin .neq (proj 6 b1) (.str ⟨#[]⟩)) fun d2 =>
   ogd d2
    (some (.bool false))
    (ob (dLenS (proj 6 b1)) fun d3 =>
    ob (dBin .gtr d3 (.int .i64 200)) fun d4 =>
    oif d4
     (some (.bool false))
     (P_tree_one_12 R b1 b3))
    none)
   (ob (dLenS (proj 6 b1)) fun d5 =>
   ob (dBin .gtr d5 (.int .i64 200)) fun d6 =>
   oif d6
    (some (.bool false))
    (P_tree_one_12 R b1 b3))
   none) := evP_of [4, 6, 8, 10, 12, 14, 16, 18] (by kernel_rfl)
set_option maxRecDepth 100000 in
theorem eq_tree_one_12 (R : Orc) (b1 : DV) (b3 : DV) : P_tree_one_12 R b1 b3 =
  (ogd (proj 4 b3)
   (ob (dBin .lss (proj 7 b1) (.int .i64 1)) fun d1 =>
   ogd d1
    (some (.bool false))
    (ob (dBin .gtr (proj 7 b1) (.int .i64 7)) fun d2 =>
    ogd d2
     (some (.bool false))
     (ob (dUn .not (proj 4 b3)) fun d3 =>
     ogd d3
      (ob (dBin .neq (proj 7 b1) (.int .i64 0)) fun d4 =>
      oif d4
       (some (.bool false))
       (P_tree_one_14 R b1 b3))
      (P_tree_one_14 R b1 b3)
      none)
     none)
    none)
   (ob (dUn .not (proj 4 b3)) fun d5 =>
   ogd d5
    (ob (dBin .neq (proj 7 b1) (.int .i64 0)) fun d6 =>
    oif d6
     (some (.bool false))
     (P_tree_one_14 R b1 b3))
    (P_tree_one_14 R b1 b3)
    none)
   none) := evP_of [4, 6, 8, 10, 12, 14, 16, 18] (by kernel_rfl)
set_option maxRecDepth 100000 in
theorem eq_tree_one_14 (R : Orc) (b1 : DV) (b3 : DV) : P_tree_one_14 R b1 b3 =
  (ob (R.p F_tree_none [(.agg [(proj 8 b1), (proj 9 b1), (proj 10 b1)])]) fun d1 =>
  ob (dUn .not d1) fun d2 =>
  ogd d2
   (ob (dUn .not (proj 5 b3)) fun d3 =>
   ogd d3
    (some (.bool false))
    (ob (R.p F_tree_closed [(.agg [(proj 8 b1), (proj 9 b1), (proj 10 b1)])]) fun d4 =>
    ob (dUn .not d4) fun d5 =>
    ogd d5
     (some (.bool false))
     (ogd (proj 7 b3)
      (ob (R.p F_tree_none [(.agg [(proj 8 b1), (proj 9 b1), (proj 10 b1)])]) fun d6 =>
      oif d6
       (some (.bool false))
       (P_tree_one_16 R b1 b3))
      (P_tree_one_16 R b1 b3)
      none)
     none)
    none)
   (ogd (proj 7 b3)
    (ob (R.p F_tree_none [(.agg [(proj 8 b1), (proj 9 b1), (proj 10 b1)])]) fun d7 =>
    oif d7
     (some (.bool false))
     (P_tree_one_16 R b1 b3))
    (P_tree_one_16 R b1 b3)
    none)
   none) := evP_of [4, 6, 8, 10, 12, 14, 16, 18] (by kernel_rfl)
theorem eq_tree_one_16 (R : Orc) (b1 : DV) (b3 : DV) : P_tree_one_16 R b1 b3 =
  (ob (R.p F_tree_none [(.agg [(proj 11 b1), (proj 12 b1), (proj 13 b1)])]) fun d1 =>
  ob (dUn .not d1) fun d2 =>
  ogd d2
   (ob (dUn .not (proj 6 b3)) fun d3 =>
   ogd d3
    (some (.bool false))
    (ob (R.p F_tree_closed [(.agg [(proj 11 b1), (proj 12 b1), (proj 13 b1)])]) fun d4 =>
    ob (dUn .not d4) fun d5 =>
    oif d5
     (some (.bool false))
     (P_tree_one_18 R b1))
    none)
   (P_tree_one_18 R b1)
   none) := evP_of [4, 6, 8, 10, 12, 14, 16, 18] (by kernel_rfl)
theorem eq_tree_one_18 (R : Orc) (b1 : DV) : P_tree_one_18 R b1 =
  (ob (dLen (proj 14 b1)) fun d1 =>
  P_tree_one_19h R (proj 14 b1) d1 (.int .i64 0)) := evP_of [4, 6, 8, 10, 12, 14, 16, 18] (by kernel_rfl)
theorem eq_tree_one_19h (R : Orc) (t176 : DV) (t177 : DV) (t178 : DV) : P_tree_one_19h R t176 t177 t178 =
  (ob (dBin .lss t178 t177) fun d1 =>
  oif d1
   (ob (dIdx 7 t176 t178) fun d2 =>
   ob (R.p F_tree_CheckPat [(.agg [(proj 0 d2), (proj 1 d2), (proj 2 d2), (proj 3 d2), (proj 4 d2), (proj 5 d2), (proj 6 d2)])]) fun d3 =>
   ob (dBin .neq d3 (.int .i64 0)) fun d4 =>
   oif d4
    (some (.bool false))
    (ob (dBin .add t178 (.int .i64 1)) fun d5 =>
    P_tree_one_19h R t176 t177 d5))
   (some (.bool true))) := headP_of [4, 6, 8, 10, 12, 14, 16, 18] (by kernel_rfl)
theorem fix_tree_one (x0 : DV) : (run cfg).p F_tree_one [x0] = P_tree_one (run cfg) x0 :=
  (fix_pure (C := cfg) (f := F_tree_one) (fn := Try.f37) (c := code_tree_one) (by kernel_rfl) Try.func37 (by kernel_rfl)).trans (by kernel_rfl)
theorem call_tree_one (x0 : DV) {d : DV} (h : P_tree_one (run cfg) x0 = some d) : (run cfg).p F_tree_one [x0] = some d := (fix_tree_one x0).trans h

noncomputable def P_tree_Free (R : Orc) (x0 : DV) : Option DV := evP cfg R fl_tree_Free (keyK cfg R fl_tree_Free kp_tree_Free cut_tree_Free.post (retP cfg.P Try.f38)) [] (seqs cut_tree_Free.pre .skip) (initSt Try.f38 [(x0, .val)] [])
theorem eq_tree_Free (R : Orc) (x0 : DV) : P_tree_Free R x0 =
  (og (isAggN 16 x0) <|
  ob (R.p F_tree_Check [(.agg [(proj 0 x0), (proj 1 x0), (proj 2 x0), (proj 3 x0), (proj 4 x0), (proj 5 x0), (proj 6 x0), (proj 7 x0), (proj 8 x0), (proj 9 x0), (proj 10 x0), (proj 11 x0), (proj 12 x0), (proj 13 x0), (proj 14 x0), (proj 15 x0)])]) fun d1 =>
  ob (dBin .neq d1 (.int .i64 0)) fun d2 =>
  oif d2
   (some (.list 1 []))
   (ob (R.r F_tree_scope_look [(.undef, (.ptr 2 0)), ((.agg [(proj 0 x0), (proj 1 x0), (proj 2 x0), (proj 3 x0), (proj 4 x0), (proj 5 x0), (proj 6 x0), (proj 7 x0), (proj 8 x0), (proj 9 x0), (proj 10 x0), (proj 11 x0), (proj 12 x0), (proj 13 x0), (proj 14 x0), (proj 15 x0)]), .val)] [.map true [], .map true [], SObj.box [(.undef, (.map 0)), (.undef, (.map 1))]]) fun q3 =>
   ob (sgBox q3.2 2) fun c4 =>
   ob (cellMap c4 1) fun i5 =>
   ob (sgMap q3.2 i5) fun m6 =>
   og (m6.1 && true && true) <|
   if m6.2.length ≤ lim then
    (some (sortKeys m6.2))
   else none)) := evP_of [] (by kernel_rfl)
theorem fix_tree_Free (x0 : DV) : (run cfg).p F_tree_Free [x0] = P_tree_Free (run cfg) x0 :=
  (fix_cut (C := cfg) (f := F_tree_Free) (fn := Try.f38) (c := kc_tree_Free) (p := cut_tree_Free) rfl Try.func38 (by kernel_rfl)).trans ((congrArg (fun k => evP cfg (run cfg) fl_tree_Free k [] (seqs cut_tree_Free.pre .skip) (initSt Try.f38 ([x0].map fun d => (d, .val)) [])) (keyK_eq (q := kp_tree_Free) (p := cut_tree_Free) (by kernel_rfl))).trans (by kernel_rfl))
theorem call_tree_Free (x0 : DV) {d : DV} (h : P_tree_Free (run cfg) x0 = some d) : (run cfg).p F_tree_Free [x0] = some d := (fix_tree_Free x0).trans h

noncomputable def code_word_Key : Code := Try.f39.body.getD .skip
noncomputable def P_word_Key (R : Orc) (x0 : DV) : Option DV := evP cfg R fl_word_Key (retP cfg.P Try.f39) [] code_word_Key (initSt Try.f39 [(x0, .val)] [])
theorem eq_word_Key (R : Orc) (x0 : DV) : P_word_Key R x0 =
  (ob (dBin .eql x0 (.str ⟨#[108, 101, 116]⟩)) fun d1 =>
  oif d1
   (some (.bool true))
   (ob (dBin .eql x0 (.str ⟨#[114, 101, 99]⟩)) fun d2 =>
   oif d2
    (some (.bool true))
    (ob (dBin .eql x0 (.str ⟨#[105, 110]⟩)) fun d3 =>
    oif d3
     (some (.bool true))
     (ob (dBin .eql x0 (.str ⟨#[102, 117, 110]⟩)) fun d4 =>
     oif d4
      (some (.bool true))
      (ob (dBin .eql x0 (.str ⟨#[105, 102]⟩)) fun d5 =>
      oif d5
       (some (.bool true))
       (ob (dBin .eql x0 (.str ⟨#[116, 104, 101, 110]⟩)) fun d6 =>
       oif d6
        (some (.bool true))
        (ob (dBin .eql x0 (.str ⟨#[101, 108, 115, 101]⟩)) fun d7 =>
        oif d7
         (some (.bool true))
         (ob (dBin .eql x0 (.str ⟨#[109, 97, 116, 99, 104]⟩)) fun d8 =>
         oif d8
          (some (.bool true))
          (ob (dBin .eql x0 (.str ⟨#[119, 105, 116, 104]⟩)) fun d9 =>
          oif d9
           (some (.bool true))
           (ob (dBin .eql x0 (.str ⟨#[101, 110, 100]⟩)) fun d10 =>
           oif d10
            (some (.bool true))
            (ob (dBin .eql x0 (.str ⟨#[116, 114, 117, 101]⟩)) fun d11 =>
            oif d11
             (some (.bool true))
             (ob (dBin .eql x0 (.str ⟨#[102, 97, 108, 115, 101]⟩)) fun d12 =>
             oif d12
              (some (.bool true))
              (ob (dBin .eql x0 (.str ⟨#[105, 110, 116]⟩)) fun d13 =>
              oif d13
               (some (.bool true))
               (ob (dBin .eql x0 (.str ⟨#[98, 111, 111, 108]⟩)) fun d14 =>
               oif d14
                (some (.bool true))
                (ob (dBin .eql x0 (.str ⟨#[115, 116, 114, 105, 110, 103]⟩)) fun d15 =>
                oif d15
                 (some (.bool true))
                 (ob (dBin .eql x0 (.str ⟨#[117, 110, 105, 116]⟩)) fun d16 =>
                 oif d16
                  (some (.bool true))
                  (ob (dBin .eql x0 (.str ⟨#[108, 105, 115, 116]⟩)) fun d17 =>
                  oif d17
                   (some (.bool true))
                   (some (.bool false))))))))))))))))))) := evP_of [] (by kernel_rfl)
theorem fix_word_Key (x0 : DV) : (run cfg).p F_word_Key [x0] = P_word_Key (run cfg) x0 :=
  (fix_pure (C := cfg) (f := F_word_Key) (fn := Try.f39) (c := code_word_Key) (by kernel_rfl) Try.func39 (by kernel_rfl)).trans (by kernel_rfl)
theorem call_word_Key (x0 : DV) {d : DV} (h : P_word_Key (run cfg) x0 = some d) : (run cfg).p F_word_Key [x0] = some d := (fix_word_Key x0).trans h

noncomputable def code_word_inner : Code := Try.f40.body.getD .skip
noncomputable def P_word_inner (R : Orc) (x0 : DV) : Option DV := evP cfg R fl_word_inner (retP cfg.P Try.f40) [] code_word_inner (initSt Try.f40 [(x0, .val)] [])
set_option maxRecDepth 100000 in
theorem eq_word_inner (R : Orc) (x0 : DV) : P_word_inner R x0 =
  (ob (dBin .geq x0 (.int .u8 97)) fun d1 =>
  ogd d1
   (ob (dBin .leq x0 (.int .u8 122)) fun d2 =>
   ogd d2
    (some (.bool true))
    (ob (dBin .geq x0 (.int .u8 65)) fun d3 =>
    ogd d3
     (ob (dBin .leq x0 (.int .u8 90)) fun d4 =>
     ogd d4
      (some (.bool true))
      (ob (dBin .geq x0 (.int .u8 48)) fun d5 =>
      ogd d5
       (ob (dBin .leq x0 (.int .u8 57)) fun d6 =>
       ogd d6
        (some (.bool true))
        (ob (dBin .eql x0 (.int .u8 95)) fun d7 =>
        ogd d7
         (some (.bool true))
         (ob (dBin .eql x0 (.int .u8 39)) fun d8 =>
         some d8)
         none)
        none)
       (ob (dBin .eql x0 (.int .u8 95)) fun d9 =>
       ogd d9
        (some (.bool true))
        (ob (dBin .eql x0 (.int .u8 39)) fun d10 =>
        some d10)
        none)
       none)
      none)
     (ob (dBin .geq x0 (.int .u8 48)) fun d11 =>
     ogd d11
      (ob (dBin .leq x0 (.int .u8 57)) fun d12 =>
      ogd d12
       (some (.bool true))
       (ob (dBin .eql x0 (.int .u8 95)) fun d13 =>
       ogd d13
        (some (.bool true))
        (ob (dBin .eql x0 (.int .u8 39)) fun d14 =>
        some d14)
        none)
       none)
      (ob (dBin .eql x0 (.int .u8 95)) fun d15 =>
      ogd d15
       (some (.bool true))
       (ob (dBin .eql x0 (.int .u8 39)) fun d16 =>
       some d16)
       none)
      none)
     none)
    none)
   (ob (dBin .geq x0 (.int .u8 65)) fun d17 =>
   ogd d17
    (ob (dBin .leq x0 (.int .u8 90)) fun d18 =>
    ogd d18
     (some (.bool true))
     (ob (dBin .geq x0 (.int .u8 48)) fun d19 =>
     ogd d19
      (ob (dBin .leq x0 (.int .u8 57)) fun d20 =>
      ogd d20
       (some (.bool true))
       (ob (dBin .eql x0 (.int .u8 95)) fun d21 =>
       ogd d21
        (some (.bool true))
        (ob (dBin .eql x0 (.int .u8 39)) fun d22 =>
        some d22)
        none)
       none)
      (ob (dBin .eql x0 (.int .u8 95)) fun d23 =>
      ogd d23
       (some (.bool true))
       (ob (dBin .eql x0 (.int .u8 39)) fun d24 =>
       some d24)
       none)
      none)
     none)
    (ob (dBin .geq x0 (.int .u8 48)) fun d25 =>
    ogd d25
     (ob (dBin .leq x0 (.int .u8 57)) fun d26 =>
     ogd d26
      (some (.bool true))
      (ob (dBin .eql x0 (.int .u8 95)) fun d27 =>
      ogd d27
       (some (.bool true))
       (ob (dBin .eql x0 (.int .u8 39)) fun d28 =>
       some d28)
       none)
      none)
     (ob (dBin .eql x0 (.int .u8 95)) fun d29 =>
     ogd d29
      (some (.bool true))
      (ob (dBin .eql x0 (.int .u8 39)) fun d30 =>
      some d30)
      none)
     none)
    none)
   none) := evP_of [] (by kernel_rfl)
theorem fix_word_inner (x0 : DV) : (run cfg).p F_word_inner [x0] = P_word_inner (run cfg) x0 :=
  (fix_pure (C := cfg) (f := F_word_inner) (fn := Try.f40) (c := code_word_inner) (by kernel_rfl) Try.func40 (by kernel_rfl)).trans (by kernel_rfl)
theorem call_word_inner (x0 : DV) {d : DV} (h : P_word_inner (run cfg) x0 = some d) : (run cfg).p F_word_inner [x0] = some d := (fix_word_inner x0).trans h

noncomputable def code_erase_binds : Code := Try.f42.body.getD .skip
noncomputable def P_erase_binds (R : Orc) (x0 : DV) (x1 : DV) (x2 : DV) : Option DV := evP cfg R fl_erase_binds (retP cfg.P Try.f42) [] code_erase_binds (initSt Try.f42 [(x0, .val), (x1, .val), (x2, .val)] [])
noncomputable def P_erase_binds_4 (R : Orc) (t2 : DV) (b3 : DV) : Option DV := evP cfg R fl_erase_binds (retP cfg.P Try.f42) [true, false, false, true, false] code_erase_binds ⟨spread .undef 60 0 [(2, t2)], spread .val 60 0 [(3, (.loc 3 0))], spread none 60 0 [(3, some [((proj 0 b3), .val), ((proj 1 b3), .val), ((proj 2 b3), .val), ((proj 3 b3), .val), ((proj 4 b3), .val), ((proj 5 b3), .val), ((proj 6 b3), .val), ((proj 7 b3), .val), ((proj 8 b3), .val), ((proj 9 b3), .val), ((proj 10 b3), .val), ((proj 11 b3), .val), ((proj 12 b3), .val), ((proj 13 b3), .val), ((proj 14 b3), .val), ((proj 15 b3), .val)])], []⟩
noncomputable def P_erase_binds_5 (R : Orc) (t1 : DV) (t2 : DV) (b3 : DV) : Option DV := evP cfg R fl_erase_binds (retP cfg.P Try.f42) [true, false, false, true, true] code_erase_binds ⟨spread .undef 60 0 [(1, t1), (2, t2)], spread .val 60 0 [(3, (.loc 3 0))], spread none 60 0 [(3, some [((proj 0 b3), .val), ((proj 1 b3), .val), ((proj 2 b3), .val), ((proj 3 b3), .val), ((proj 4 b3), .val), ((proj 5 b3), .val), ((proj 6 b3), .val), ((proj 7 b3), .val), ((proj 8 b3), .val), ((proj 9 b3), .val), ((proj 10 b3), .val), ((proj 11 b3), .val), ((proj 12 b3), .val), ((proj 13 b3), .val), ((proj 14 b3), .val), ((proj 15 b3), .val)])], []⟩
theorem eq_erase_binds (R : Orc) (x0 : DV) (x1 : DV) (x2 : DV) : P_erase_binds R x0 x1 x2 =
  (og (isAggN 16 x0) <|
  ob (dBin .eql (proj 0 x0) (.int .i64 9)) fun d1 =>
  oif d1
   (P_erase_binds_4 R x2 x0)
   (ob (dBin .eql (proj 0 x0) (.int .i64 11)) fun d2 =>
   ogd d2
    (ob (dBin .eql x1 (.int .i64 1)) fun d3 =>
    oif d3
     (P_erase_binds_4 R x2 x0)
     (ob (dBin .eql (proj 0 x0) (.int .i64 12)) fun d4 =>
     ogd d4
      (ob (dBin .eql x1 (.int .i64 1)) fun d5 =>
      oif d5
       (P_erase_binds_4 R x2 x0)
       (P_erase_binds_5 R x1 x2 x0))
      (P_erase_binds_5 R x1 x2 x0)
      none))
    (ob (dBin .eql (proj 0 x0) (.int .i64 12)) fun d6 =>
    ogd d6
     (ob (dBin .eql x1 (.int .i64 1)) fun d7 =>
     oif d7
      (P_erase_binds_4 R x2 x0)
      (P_erase_binds_5 R x1 x2 x0))
     (P_erase_binds_5 R x1 x2 x0)
     none)
    none)) := evP_of [4, 5] (by kernel_rfl)
theorem eq_erase_binds_4 (R : Orc) (t2 : DV) (b3 : DV) : P_erase_binds_4 R t2 b3 =
  (ob (dBin .eql (proj 3 b3) t2) fun d1 =>
  some d1) := evP_of [4, 5] (by kernel_rfl)
theorem eq_erase_binds_5 (R : Orc) (t1 : DV) (t2 : DV) (b3 : DV) : P_erase_binds_5 R t1 t2 b3 =
  (ob (dBin .eql (proj 0 b3) (.int .i64 12)) fun d1 =>
  oif d1
   (ob (dBin .eql (proj 3 b3) t2) fun d2 =>
   ogd d2
    (some (.bool true))
    (ob (dBin .eql (proj 4 b3) t2) fun d3 =>
    some d3)
    none)
   (ob (dBin .eql (proj 0 b3) (.int .i64 14)) fun d4 =>
   ogd d4
    (ob (dBin .gtr t1 (.int .i64 0)) fun d5 =>
    oif d5
     (ob (dBin .sub t1 (.int .i64 1)) fun d6 =>
     ob (dIdx 7 (proj 14 b3) d6) fun d7 =>
     ob (R.r F_erase_patNames [((.agg [(proj 0 d7), (proj 1 d7), (proj 2 d7), (proj 3 d7), (proj 4 d7), (proj 5 d7), (proj 6 d7)]), .val), ((.list 1 []), .own)] []) fun q8 =>
     ob (R.p F_slices_Contains__string_string [(q8.1.getD 0 .undef), t2]) fun d9 =>
     some d9)
     (some (.bool false)))
    (some (.bool false))
    none)) := evP_of [4, 5] (by kernel_rfl)
theorem fix_erase_binds (x0 : DV) (x1 : DV) (x2 : DV) : (run cfg).p F_erase_binds [x0, x1, x2] = P_erase_binds (run cfg) x0 x1 x2 :=
  (fix_pure (C := cfg) (f := F_erase_binds) (fn := Try.f42) (c := code_erase_binds) (by kernel_rfl) Try.func42 (by kernel_rfl)).trans (by kernel_rfl)
theorem call_erase_binds (x0 : DV) (x1 : DV) (x2 : DV) {d : DV} (h : P_erase_binds (run cfg) x0 x1 x2 = some d) : (run cfg).p F_erase_binds [x0, x1, x2] = some d := (fix_erase_binds x0 x1 x2).trans h

noncomputable def code_erase_stuck : Code := Try.f43.body.getD .skip
noncomputable def P_erase_stuck (R : Orc) : Option DV := evP cfg R fl_erase_stuck (retP cfg.P Try.f43) [] code_erase_stuck (initSt Try.f43 [] [])
theorem eq_erase_stuck (R : Orc) : P_erase_stuck R =
  (some (.tup [(.agg [(.int .i64 0), (.int .i64 0), (.int .i64 0), (.str ⟨#[]⟩), (.str ⟨#[]⟩), (.int .i64 0), (.str ⟨#[]⟩), (.int .i64 0), (.int .i64 0), (.int .i64 0), (.list 3 []), (.int .i64 0), (.int .i64 0), (.list 3 []), (.list 7 []), (.list 16 [])]), (.agg [(.int .i64 6), (.int .i64 0), (.int .i64 0), (.str ⟨#[]⟩), (.int .i64 0), (.int .i64 0), (.int .i64 0), (.bool false), (.list 5 []), (.list 9 []), (.int .i64 0), (.bool false), (.int .i64 0), (.int .i64 0), (.int .i64 0)])])) := evP_of [] (by kernel_rfl)
theorem fix_erase_stuck : (run cfg).p F_erase_stuck [] = P_erase_stuck (run cfg) :=
  (fix_pure (C := cfg) (f := F_erase_stuck) (fn := Try.f43) (c := code_erase_stuck) (by kernel_rfl) Try.func43 (by kernel_rfl)).trans (by kernel_rfl)
theorem call_erase_stuck {d : DV} (h : P_erase_stuck (run cfg) = some d) : (run cfg).p F_erase_stuck [] = some d := (fix_erase_stuck).trans h

noncomputable def code_erase_value : Code := Try.f44.body.getD .skip
noncomputable def P_erase_value (R : Orc) (x0 : DV) : Option DV := evP cfg R fl_erase_value (retP cfg.P Try.f44) [] code_erase_value (initSt Try.f44 [(x0, .val)] [])
noncomputable def P_erase_value_11 (R : Orc) (b1 : DV) : Option DV := evP cfg R fl_erase_value (retP cfg.P Try.f44) [true, false, true, false, true, true, true, false] code_erase_value ⟨spread .undef 27 0 [], spread .val 27 0 [(1, (.loc 1 0))], spread none 27 0 [(1, some [((proj 0 b1), .val), ((proj 1 b1), .val), ((proj 2 b1), .val), ((proj 3 b1), .val), ((proj 4 b1), .val), ((proj 5 b1), .val), ((proj 6 b1), .val), ((proj 7 b1), .val), ((proj 8 b1), .val), ((proj 9 b1), .val), ((proj 10 b1), .val), ((proj 11 b1), .val), ((proj 12 b1), .val), ((proj 13 b1), .val), ((proj 14 b1), .val), ((proj 15 b1), .val)])], []⟩
theorem eq_erase_value (R : Orc) (x0 : DV) : P_erase_value R x0 =
  (og (isAggN 16 x0) <|
  ob (dBin .eql (proj 0 x0) (.int .i64 2)) fun d1 =>
  oif d1
   (some (.bool true))
   (ob (dBin .eql (proj 0 x0) (.int .i64 3)) fun d2 =>
   oif d2
    (some (.bool true))
    (ob (dBin .eql (proj 0 x0) (.int .i64 4)) fun d3 =>
    oif d3
     (some (.bool true))
     (ob (dBin .eql (proj 0 x0) (.int .i64 5)) fun d4 =>
     oif d4
      (some (.bool true))
      (ob (dBin .eql (proj 0 x0) (.int .i64 7)) fun d5 =>
      oif d5
       (some (.bool true))
       (ob (dBin .eql (proj 0 x0) (.int .i64 9)) fun d6 =>
       oif d6
        (some (.bool true))
        (ob (dBin .eql (proj 0 x0) (.int .i64 6)) fun d7 =>
        oif d7
         (P_erase_value_11 R x0)
         (ob (dBin .eql (proj 0 x0) (.int .i64 8)) fun d8 =>
         oif d8
          (P_erase_value_11 R x0)
          (some (.bool false)))))))))) := evP_of [11] (by kernel_rfl)
theorem eq_erase_value_11 (R : Orc) (b1 : DV) : P_erase_value_11 R b1 =
  (ob (dIdx 16 (proj 15 b1) (.int .i64 0)) fun d1 =>
  ob (R.p F_erase_value [(.agg [(proj 0 d1), (proj 1 d1), (proj 2 d1), (proj 3 d1), (proj 4 d1), (proj 5 d1), (proj 6 d1), (proj 7 d1), (proj 8 d1), (proj 9 d1), (proj 10 d1), (proj 11 d1), (proj 12 d1), (proj 13 d1), (proj 14 d1), (proj 15 d1)])]) fun d2 =>
  ogd d2
   (ob (dIdx 16 (proj 15 b1) (.int .i64 1)) fun d3 =>
   ob (R.p F_erase_value [(.agg [(proj 0 d3), (proj 1 d3), (proj 2 d3), (proj 3 d3), (proj 4 d3), (proj 5 d3), (proj 6 d3), (proj 7 d3), (proj 8 d3), (proj 9 d3), (proj 10 d3), (proj 11 d3), (proj 12 d3), (proj 13 d3), (proj 14 d3), (proj 15 d3)])]) fun d4 =>
   some d4)
   (some (.bool false))
   none) := evP_of [11] (by kernel_rfl)
theorem fix_erase_value (x0 : DV) : (run cfg).p F_erase_value [x0] = P_erase_value (run cfg) x0 :=
  (fix_pure (C := cfg) (f := F_erase_value) (fn := Try.f44) (c := code_erase_value) (by kernel_rfl) Try.func44 (by kernel_rfl)).trans (by kernel_rfl)
theorem call_erase_value (x0 : DV) {d : DV} (h : P_erase_value (run cfg) x0 = some d) : (run cfg).p F_erase_value [x0] = some d := (fix_erase_value x0).trans h

end Go.Su

/-
  Equations of the program's functions: by program.
-/
namespace Go.Su
open Go.Proofs
set_option linter.unusedVariables false

noncomputable def code_erase_step : Code := Try.f45.body.getD .skip
noncomputable def P_erase_step (R : Orc) (x0 : DV) : Option DV := evP cfg R fl_erase_step (retP cfg.P Try.f45) [] code_erase_step (initSt Try.f45 [(x0, .val)] [])
noncomputable def P_erase_step_2h (R : Orc) (t11 : DV) (t12 : DV) (b1 : DV) (b2_0 : DV) (b2_1 : DV) (b2_2 : DV) (b2_3 : DV) (b2_4 : DV) (b2_5 : DV) (b2_6 : DV) (b2_7 : DV) (b2_8 : DV) (b2_9 : DV) (b2_10 : DV) (b2_11 : DV) (b2_12 : DV) (b2_13 : DV) (b2_14 : DV) (b2_15 : DV) (b3_0 : DV) (b3_1 : DV) (b3_2 : DV) (b3_3 : DV) (b3_4 : DV) (b3_5 : DV) (b3_6 : DV) (b3_7 : DV) (b3_8 : DV) (b3_9 : DV) (b3_10 : DV) (b3_11 : DV) (b3_12 : DV) (b3_13 : DV) (b3_14 : DV) : Option DV := headP cfg R fl_erase_step (retP cfg.P Try.f45) [true, false, true, false] code_erase_step ⟨spread .undef 143 0 [(11, t11), (12, t12)], spread .val 143 0 [(1, (.loc 1 0)), (2, (.loc 2 0)), (3, (.loc 3 0))], spread none 143 0 [(1, some [((proj 0 b1), .val), ((proj 1 b1), .val), ((proj 2 b1), .val), ((proj 3 b1), .val), ((proj 4 b1), .val), ((proj 5 b1), .val), ((proj 6 b1), .val), ((proj 7 b1), .val), ((proj 8 b1), .val), ((proj 9 b1), .val), ((proj 10 b1), .val), ((proj 11 b1), .val), ((proj 12 b1), .val), ((proj 13 b1), .val), ((proj 14 b1), .val), ((proj 15 b1), .val)]), (2, some [(b2_0, .val), (b2_1, .val), (b2_2, .val), (b2_3, .val), (b2_4, .val), (b2_5, .val), (b2_6, .val), (b2_7, .val), (b2_8, .val), (b2_9, .val), (b2_10, .val), (b2_11, .val), (b2_12, .val), (b2_13, .val), (b2_14, .val), (b2_15, .val)]), (3, some [(b3_0, .val), (b3_1, .val), (b3_2, .val), (b3_3, .val), (b3_4, .val), (b3_5, .val), (b3_6, .val), (b3_7, .val), (b3_8, .val), (b3_9, .val), (b3_10, .val), (b3_11, .val), (b3_12, .val), (b3_13, .val), (b3_14, .val)])], []⟩
noncomputable def P_erase_step_31 (R : Orc) (b2_0 : DV) (b2_1 : DV) (b2_2 : DV) (b2_3 : DV) (b2_4 : DV) (b2_5 : DV) (b2_6 : DV) (b2_7 : DV) (b2_8 : DV) (b2_9 : DV) (b2_10 : DV) (b2_11 : DV) (b2_12 : DV) (b2_13 : DV) (b2_14 : DV) (b2_15 : DV) (b3_0 : DV) (b3_1 : DV) (b3_2 : DV) (b3_3 : DV) (b3_4 : DV) (b3_5 : DV) (b3_6 : DV) (b3_7 : DV) (b3_8 : DV) (b3_9 : DV) (b3_10 : DV) (b3_11 : DV) (b3_12 : DV) (b3_13 : DV) (b3_14 : DV) : Option DV := evP cfg R fl_erase_step (retP cfg.P Try.f45) [true, true, true] code_erase_step ⟨spread .undef 143 0 [], spread .val 143 0 [(2, (.loc 2 0)), (3, (.loc 3 0))], spread none 143 0 [(2, some [(b2_0, .val), (b2_1, .val), (b2_2, .val), (b2_3, .val), (b2_4, .val), (b2_5, .val), (b2_6, .val), (b2_7, .val), (b2_8, .val), (b2_9, .val), (b2_10, .val), (b2_11, .val), (b2_12, .val), (b2_13, .val), (b2_14, .val), (b2_15, .val)]), (3, some [(b3_0, .val), (b3_1, .val), (b3_2, .val), (b3_3, .val), (b3_4, .val), (b3_5, .val), (b3_6, .val), (b3_7, .val), (b3_8, .val), (b3_9, .val), (b3_10, .val), (b3_11, .val), (b3_12, .val), (b3_13, .val), (b3_14, .val)])], []⟩
theorem eq_erase_step (R : Orc) (x0 : DV) : P_erase_step R x0 =
  (og (isAggN 16 x0) <|
  ob (R.p F_erase_many [(proj 0 x0)]) fun d1 =>
  P_erase_step_2h R d1 (.int .i64 0) x0 (.int .i64 0) (.int .i64 0) (.int .i64 0) (.str ⟨#[]⟩) (.str ⟨#[]⟩) (.int .i64 0) (.str ⟨#[]⟩) (.int .i64 0) (.int .i64 0) (.int .i64 0) (.list 3 []) (.int .i64 0) (.int .i64 0) (.list 3 []) (.list 7 []) (.list 16 []) (.int .i64 0) (.int .i64 0) (.int .i64 0) (.str ⟨#[]⟩) (.int .i64 0) (.int .i64 0) (.int .i64 0) (.bool false) (.list 5 []) (.list 9 []) (.int .i64 0) (.bool false) (.int .i64 0) (.int .i64 0) (.int .i64 0)) := evP_of [31] (by kernel_rfl)
set_option maxRecDepth 100000 in
theorem eq_erase_step_2h (R : Orc) (t11 : DV) (t12 : DV) (b1 : DV) (b2_0 : DV) (b2_1 : DV) (b2_2 : DV) (b2_3 : DV) (b2_4 : DV) (b2_5 : DV) (b2_6 : DV) (b2_7 : DV) (b2_8 : DV) (b2_9 : DV) (b2_10 : DV) (b2_11 : DV) (b2_12 : DV) (b2_13 : DV) (b2_14 : DV) (b2_15 : DV) (b3_0 : DV) (b3_1 : DV) (b3_2 : DV) (b3_3 : DV) (b3_4 : DV) (b3_5 : DV) (b3_6 : DV) (b3_7 : DV) (b3_8 : DV) (b3_9 : DV) (b3_10 : DV) (b3_11 : DV) (b3_12 : DV) (b3_13 : DV) (b3_14 : DV) : P_erase_step_2h R t11 t12 b1 b2_0 b2_1 b2_2 b2_3 b2_4 b2_5 b2_6 b2_7 b2_8 b2_9 b2_10 b2_11 b2_12 b2_13 b2_14 b2_15 b3_0 b3_1 b3_2 b3_3 b3_4 b3_5 b3_6 b3_7 b3_8 b3_9 b3_10 b3_11 b3_12 b3_13 b3_14 =
  (ob (dBin .lss t12 t11) fun d1 =>
  oif d1
   (ob (dIdx 16 (proj 15 b1) t12) fun d2 =>
   ob (R.p F_erase_value [(.agg [(proj 0 d2), (proj 1 d2), (proj 2 d2), (proj 3 d2), (proj 4 d2), (proj 5 d2), (proj 6 d2), (proj 7 d2), (proj 8 d2), (proj 9 d2), (proj 10 d2), (proj 11 d2), (proj 12 d2), (proj 13 d2), (proj 14 d2), (proj 15 d2)])]) fun d3 =>
   oif d3
    (ob (dBin .add t12 (.int .i64 1)) fun d4 =>
    P_erase_step_2h R t11 d4 b1 b2_0 b2_1 b2_2 b2_3 b2_4 b2_5 b2_6 b2_7 b2_8 b2_9 b2_10 b2_11 b2_12 b2_13 b2_14 b2_15 b3_0 b3_1 b3_2 b3_3 b3_4 b3_5 b3_6 b3_7 b3_8 b3_9 b3_10 b3_11 b3_12 b3_13 b3_14)
    (ob (dIdx 16 (proj 15 b1) t12) fun d5 =>
    ob (R.p F_erase_step [(.agg [(proj 0 d5), (proj 1 d5), (proj 2 d5), (proj 3 d5), (proj 4 d5), (proj 5 d5), (proj 6 d5), (proj 7 d5), (proj 8 d5), (proj 9 d5), (proj 10 d5), (proj 11 d5), (proj 12 d5), (proj 13 d5), (proj 14 d5), (proj 15 d5)])]) fun d6 =>
    ob (dExt 0 d6) fun d7 =>
    ob (dExt 1 d6) fun d8 =>
    og (isAggN 16 d7) <|
    og (isAggN 15 d8) <|
    ob (dBin .neq (proj 0 d8) (.int .i64 0)) fun d9 =>
    oif d9
     (some (.tup [(.agg [(.int .i64 0), (.int .i64 0), (.int .i64 0), (.str ⟨#[]⟩), (.str ⟨#[]⟩), (.int .i64 0), (.str ⟨#[]⟩), (.int .i64 0), (.int .i64 0), (.int .i64 0), (.list 3 []), (.int .i64 0), (.int .i64 0), (.list 3 []), (.list 7 []), (.list 16 [])]), (.agg [(proj 0 d8), (proj 1 d8), (proj 2 d8), (proj 3 d8), (proj 4 d8), (proj 5 d8), (proj 6 d8), (proj 7 d8), (proj 8 d8), (proj 9 d8), (proj 10 d8), (proj 11 d8), (proj 12 d8), (proj 13 d8), (proj 14 d8)])]))
     (ob (dList (proj 15 b1)) fun p10 =>
     og (true && p10.1 == 16 && decide (p10.2.length ≤ lim)) <|
     ob (arrIdx 0 p10.2.length t12) fun n11 =>
     ob (p10.2[n11]?) fun u12 =>
     retL [ob (sealCells [.arr 16 (p10.2.set n11 (.agg [(proj 0 d7), (proj 1 d7), (proj 2 d7), (proj 3 d7), (proj 4 d7), (proj 5 d7), (proj 6 d7), (proj 7 d7), (proj 8 d7), (proj 9 d7), (proj 10 d7), (proj 11 d7), (proj 12 d7), (proj 13 d7), (proj 14 d7), (proj 15 d7)]))] [((proj 0 b1), .val), ((proj 1 b1), .val), ((proj 2 b1), .val), ((proj 3 b1), .val), ((proj 4 b1), .val), ((proj 5 b1), .val), ((proj 6 b1), .val), ((proj 7 b1), .val), ((proj 8 b1), .val), ((proj 9 b1), .val), ((proj 10 b1), .val), ((proj 11 b1), .val), ((proj 12 b1), .val), ((proj 13 b1), .val), ((proj 14 b1), .val), (.undef, (.arr 0 16 0 p10.2.length))]) fun ds => some (.agg ds), ob (sealCells [.arr 16 (p10.2.set n11 (.agg [(proj 0 d7), (proj 1 d7), (proj 2 d7), (proj 3 d7), (proj 4 d7), (proj 5 d7), (proj 6 d7), (proj 7 d7), (proj 8 d7), (proj 9 d7), (proj 10 d7), (proj 11 d7), (proj 12 d7), (proj 13 d7), (proj 14 d7), (proj 15 d7)]))] [((.int .i64 0), .val), ((.int .i64 0), .val), ((.int .i64 0), .val), ((.str ⟨#[]⟩), .val), ((.int .i64 0), .val), ((.int .i64 0), .val), ((.int .i64 0), .val), ((.bool false), .val), ((.list 5 []), .full), ((.list 9 []), .full), ((.int .i64 0), .val), ((.bool false), .val), ((.int .i64 0), .val), ((.int .i64 0), .val), ((.int .i64 0), .val)]) fun ds => some (.agg ds)])))
   (ob (dBin .eql (proj 0 b1) (.int .i64 10)) fun d13 =>
   oif d13
    (ob (dIdx 16 (proj 15 b1) (.int .i64 0)) fun d14 =>
    ob (dBin .eql (proj 0 d14) (.int .i64 9)) fun d15 =>
    oif d15
     (ob (dIdx 16 (proj 15 d14) (.int .i64 0)) fun d16 =>
     ob (dIdx 16 (proj 15 b1) (.int .i64 1)) fun d17 =>
     ob (R.p F_erase_put [(.agg [(proj 0 d16), (proj 1 d16), (proj 2 d16), (proj 3 d16), (proj 4 d16), (proj 5 d16), (proj 6 d16), (proj 7 d16), (proj 8 d16), (proj 9 d16), (proj 10 d16), (proj 11 d16), (proj 12 d16), (proj 13 d16), (proj 14 d16), (proj 15 d16)]), (proj 3 d14), (.agg [(proj 0 d17), (proj 1 d17), (proj 2 d17), (proj 3 d17), (proj 4 d17), (proj 5 d17), (proj 6 d17), (proj 7 d17), (proj 8 d17), (proj 9 d17), (proj 10 d17), (proj 11 d17), (proj 12 d17), (proj 13 d17), (proj 14 d17), (proj 15 d17)])]) fun d18 =>
     og (isAggN 16 d18) <|
     some (.tup [(.agg [(proj 0 d18), (proj 1 d18), (proj 2 d18), (proj 3 d18), (proj 4 d18), (proj 5 d18), (proj 6 d18), (proj 7 d18), (proj 8 d18), (proj 9 d18), (proj 10 d18), (proj 11 d18), (proj 12 d18), (proj 13 d18), (proj 14 d18), (proj 15 d18)]), (.agg [(.int .i64 0), (.int .i64 0), (.int .i64 0), (.str ⟨#[]⟩), (.int .i64 0), (.int .i64 0), (.int .i64 0), (.bool false), (.list 5 []), (.list 9 []), (.int .i64 0), (.bool false), (.int .i64 0), (.int .i64 0), (.int .i64 0)])]))
     (P_erase_step_31 R b2_0 b2_1 b2_2 b2_3 b2_4 b2_5 b2_6 b2_7 b2_8 b2_9 b2_10 b2_11 b2_12 b2_13 b2_14 b2_15 b3_0 b3_1 b3_2 b3_3 b3_4 b3_5 b3_6 b3_7 b3_8 b3_9 b3_10 b3_11 b3_12 b3_13 b3_14))
    (ob (dBin .eql (proj 0 b1) (.int .i64 11)) fun d19 =>
    oif d19
     (ob (dIdx 16 (proj 15 b1) (.int .i64 1)) fun d20 =>
     ob (dIdx 16 (proj 15 b1) (.int .i64 0)) fun d21 =>
     ob (R.p F_erase_put [(.agg [(proj 0 d20), (proj 1 d20), (proj 2 d20), (proj 3 d20), (proj 4 d20), (proj 5 d20), (proj 6 d20), (proj 7 d20), (proj 8 d20), (proj 9 d20), (proj 10 d20), (proj 11 d20), (proj 12 d20), (proj 13 d20), (proj 14 d20), (proj 15 d20)]), (proj 3 b1), (.agg [(proj 0 d21), (proj 1 d21), (proj 2 d21), (proj 3 d21), (proj 4 d21), (proj 5 d21), (proj 6 d21), (proj 7 d21), (proj 8 d21), (proj 9 d21), (proj 10 d21), (proj 11 d21), (proj 12 d21), (proj 13 d21), (proj 14 d21), (proj 15 d21)])]) fun d22 =>
     og (isAggN 16 d22) <|
     some (.tup [(.agg [(proj 0 d22), (proj 1 d22), (proj 2 d22), (proj 3 d22), (proj 4 d22), (proj 5 d22), (proj 6 d22), (proj 7 d22), (proj 8 d22), (proj 9 d22), (proj 10 d22), (proj 11 d22), (proj 12 d22), (proj 13 d22), (proj 14 d22), (proj 15 d22)]), (.agg [(.int .i64 0), (.int .i64 0), (.int .i64 0), (.str ⟨#[]⟩), (.int .i64 0), (.int .i64 0), (.int .i64 0), (.bool false), (.list 5 []), (.list 9 []), (.int .i64 0), (.bool false), (.int .i64 0), (.int .i64 0), (.int .i64 0)])]))
     (ob (dBin .eql (proj 0 b1) (.int .i64 12)) fun d23 =>
     oif d23
      (ob (dIdx 16 (proj 15 b1) (.int .i64 1)) fun d24 =>
      ob (R.p F_erase_rec [(.agg [(proj 0 b1), (proj 1 b1), (proj 2 b1), (proj 3 b1), (proj 4 b1), (proj 5 b1), (proj 6 b1), (proj 7 b1), (proj 8 b1), (proj 9 b1), (proj 10 b1), (proj 11 b1), (proj 12 b1), (proj 13 b1), (proj 14 b1), (proj 15 b1)])]) fun d25 =>
      ob (R.p F_erase_put [(.agg [(proj 0 d24), (proj 1 d24), (proj 2 d24), (proj 3 d24), (proj 4 d24), (proj 5 d24), (proj 6 d24), (proj 7 d24), (proj 8 d24), (proj 9 d24), (proj 10 d24), (proj 11 d24), (proj 12 d24), (proj 13 d24), (proj 14 d24), (proj 15 d24)]), (proj 3 b1), d25]) fun d26 =>
      og (isAggN 16 d26) <|
      some (.tup [(.agg [(proj 0 d26), (proj 1 d26), (proj 2 d26), (proj 3 d26), (proj 4 d26), (proj 5 d26), (proj 6 d26), (proj 7 d26), (proj 8 d26), (proj 9 d26), (proj 10 d26), (proj 11 d26), (proj 12 d26), (proj 13 d26), (proj 14 d26), (proj 15 d26)]), (.agg [(.int .i64 0), (.int .i64 0), (.int .i64 0), (.str ⟨#[]⟩), (.int .i64 0), (.int .i64 0), (.int .i64 0), (.bool false), (.list 5 []), (.list 9 []), (.int .i64 0), (.bool false), (.int .i64 0), (.int .i64 0), (.int .i64 0)])]))
      (ob (dBin .eql (proj 0 b1) (.int .i64 13)) fun d27 =>
      oif d27
       (ob (dIdx 16 (proj 15 b1) (.int .i64 0)) fun d28 =>
       ob (dBin .eql (proj 0 d28) (.int .i64 3)) fun d29 =>
       oif d29
        (ob (dBin .sub (.int .i64 2) (proj 5 d28)) fun d30 =>
        ob (dIdx 16 (proj 15 b1) d30) fun d31 =>
        some (.tup [(.agg [(proj 0 d31), (proj 1 d31), (proj 2 d31), (proj 3 d31), (proj 4 d31), (proj 5 d31), (proj 6 d31), (proj 7 d31), (proj 8 d31), (proj 9 d31), (proj 10 d31), (proj 11 d31), (proj 12 d31), (proj 13 d31), (proj 14 d31), (proj 15 d31)]), (.agg [(.int .i64 0), (.int .i64 0), (.int .i64 0), (.str ⟨#[]⟩), (.int .i64 0), (.int .i64 0), (.int .i64 0), (.bool false), (.list 5 []), (.list 9 []), (.int .i64 0), (.bool false), (.int .i64 0), (.int .i64 0), (.int .i64 0)])]))
        (P_erase_step_31 R b2_0 b2_1 b2_2 b2_3 b2_4 b2_5 b2_6 b2_7 b2_8 b2_9 b2_10 b2_11 b2_12 b2_13 b2_14 b2_15 b3_0 b3_1 b3_2 b3_3 b3_4 b3_5 b3_6 b3_7 b3_8 b3_9 b3_10 b3_11 b3_12 b3_13 b3_14))
       (ob (dBin .eql (proj 0 b1) (.int .i64 16)) fun d32 =>
       oif d32
        (ob (dIdx 16 (proj 15 b1) (.int .i64 0)) fun d33 =>
        ob (dIdx 16 (proj 15 b1) (.int .i64 1)) fun d34 =>
        ob (R.p F_erase_operate [(.agg [(proj 0 b1), (proj 1 b1), (proj 2 b1), (proj 3 b1), (proj 4 b1), (proj 5 b1), (proj 6 b1), (proj 7 b1), (proj 8 b1), (proj 9 b1), (proj 10 b1), (proj 11 b1), (proj 12 b1), (proj 13 b1), (proj 14 b1), (proj 15 b1)]), (.agg [(proj 0 d33), (proj 1 d33), (proj 2 d33), (proj 3 d33), (proj 4 d33), (proj 5 d33), (proj 6 d33), (proj 7 d33), (proj 8 d33), (proj 9 d33), (proj 10 d33), (proj 11 d33), (proj 12 d33), (proj 13 d33), (proj 14 d33), (proj 15 d33)]), (.agg [(proj 0 d34), (proj 1 d34), (proj 2 d34), (proj 3 d34), (proj 4 d34), (proj 5 d34), (proj 6 d34), (proj 7 d34), (proj 8 d34), (proj 9 d34), (proj 10 d34), (proj 11 d34), (proj 12 d34), (proj 13 d34), (proj 14 d34), (proj 15 d34)])]) fun d35 =>
        ob (dExt 0 d35) fun d36 =>
        ob (dExt 1 d35) fun d37 =>
        og (isAggN 16 d36) <|
        og (isAggN 15 d37) <|
        some (.tup [(.agg [(proj 0 d36), (proj 1 d36), (proj 2 d36), (proj 3 d36), (proj 4 d36), (proj 5 d36), (proj 6 d36), (proj 7 d36), (proj 8 d36), (proj 9 d36), (proj 10 d36), (proj 11 d36), (proj 12 d36), (proj 13 d36), (proj 14 d36), (proj 15 d36)]), (.agg [(proj 0 d37), (proj 1 d37), (proj 2 d37), (proj 3 d37), (proj 4 d37), (proj 5 d37), (proj 6 d37), (proj 7 d37), (proj 8 d37), (proj 9 d37), (proj 10 d37), (proj 11 d37), (proj 12 d37), (proj 13 d37), (proj 14 d37)])]))
        (ob (dBin .eql (proj 0 b1) (.int .i64 14)) fun d38 =>
        oif d38
         (ob (R.p F_erase_match [(.agg [(proj 0 b1), (proj 1 b1), (proj 2 b1), (proj 3 b1), (proj 4 b1), (proj 5 b1), (proj 6 b1), (proj 7 b1), (proj 8 b1), (proj 9 b1), (proj 10 b1), (proj 11 b1), (proj 12 b1), (proj 13 b1), (proj 14 b1), (proj 15 b1)])]) fun d39 =>
         ob (dExt 0 d39) fun d40 =>
         ob (dExt 1 d39) fun d41 =>
         og (isAggN 16 d40) <|
         og (isAggN 15 d41) <|
         some (.tup [(.agg [(proj 0 d40), (proj 1 d40), (proj 2 d40), (proj 3 d40), (proj 4 d40), (proj 5 d40), (proj 6 d40), (proj 7 d40), (proj 8 d40), (proj 9 d40), (proj 10 d40), (proj 11 d40), (proj 12 d40), (proj 13 d40), (proj 14 d40), (proj 15 d40)]), (.agg [(proj 0 d41), (proj 1 d41), (proj 2 d41), (proj 3 d41), (proj 4 d41), (proj 5 d41), (proj 6 d41), (proj 7 d41), (proj 8 d41), (proj 9 d41), (proj 10 d41), (proj 11 d41), (proj 12 d41), (proj 13 d41), (proj 14 d41)])]))
         (ob (dBin .eql (proj 0 b1) (.int .i64 15)) fun d42 =>
         oif d42
          (ob (dIdx 16 (proj 15 b1) (.int .i64 0)) fun d43 =>
          some (.tup [(.agg [(proj 0 d43), (proj 1 d43), (proj 2 d43), (proj 3 d43), (proj 4 d43), (proj 5 d43), (proj 6 d43), (proj 7 d43), (proj 8 d43), (proj 9 d43), (proj 10 d43), (proj 11 d43), (proj 12 d43), (proj 13 d43), (proj 14 d43), (proj 15 d43)]), (.agg [(.int .i64 0), (.int .i64 0), (.int .i64 0), (.str ⟨#[]⟩), (.int .i64 0), (.int .i64 0), (.int .i64 0), (.bool false), (.list 5 []), (.list 9 []), (.int .i64 0), (.bool false), (.int .i64 0), (.int .i64 0), (.int .i64 0)])]))
          (P_erase_step_31 R b2_0 b2_1 b2_2 b2_3 b2_4 b2_5 b2_6 b2_7 b2_8 b2_9 b2_10 b2_11 b2_12 b2_13 b2_14 b2_15 b3_0 b3_1 b3_2 b3_3 b3_4 b3_5 b3_6 b3_7 b3_8 b3_9 b3_10 b3_11 b3_12 b3_13 b3_14))))))))) := headP_of [31] (by kernel_rfl)
theorem eq_erase_step_31 (R : Orc) (b2_0 : DV) (b2_1 : DV) (b2_2 : DV) (b2_3 : DV) (b2_4 : DV) (b2_5 : DV) (b2_6 : DV) (b2_7 : DV) (b2_8 : DV) (b2_9 : DV) (b2_10 : DV) (b2_11 : DV) (b2_12 : DV) (b2_13 : DV) (b2_14 : DV) (b2_15 : DV) (b3_0 : DV) (b3_1 : DV) (b3_2 : DV) (b3_3 : DV) (b3_4 : DV) (b3_5 : DV) (b3_6 : DV) (b3_7 : DV) (b3_8 : DV) (b3_9 : DV) (b3_10 : DV) (b3_11 : DV) (b3_12 : DV) (b3_13 : DV) (b3_14 : DV) : P_erase_step_31 R b2_0 b2_1 b2_2 b2_3 b2_4 b2_5 b2_6 b2_7 b2_8 b2_9 b2_10 b2_11 b2_12 b2_13 b2_14 b2_15 b3_0 b3_1 b3_2 b3_3 b3_4 b3_5 b3_6 b3_7 b3_8 b3_9 b3_10 b3_11 b3_12 b3_13 b3_14 =
  (ob (R.p F_erase_stuck []) fun d1 =>
  ob (dExt 0 d1) fun d2 =>
  ob (dExt 1 d1) fun d3 =>
  og (isAggN 16 d2) <|
  og (isAggN 15 d3) <|
  some (.tup [(.agg [(proj 0 d2), (proj 1 d2), (proj 2 d2), (proj 3 d2), (proj 4 d2), (proj 5 d2), (proj 6 d2), (proj 7 d2), (proj 8 d2), (proj 9 d2), (proj 10 d2), (proj 11 d2), (proj 12 d2), (proj 13 d2), (proj 14 d2), (proj 15 d2)]), (.agg [(proj 0 d3), (proj 1 d3), (proj 2 d3), (proj 3 d3), (proj 4 d3), (proj 5 d3), (proj 6 d3), (proj 7 d3), (proj 8 d3), (proj 9 d3), (proj 10 d3), (proj 11 d3), (proj 12 d3), (proj 13 d3), (proj 14 d3)])])) := evP_of [31] (by kernel_rfl)
theorem fix_erase_step (x0 : DV) : (run cfg).p F_erase_step [x0] = P_erase_step (run cfg) x0 :=
  (fix_pure (C := cfg) (f := F_erase_step) (fn := Try.f45) (c := code_erase_step) (by kernel_rfl) Try.func45 (by kernel_rfl)).trans (by kernel_rfl)
theorem call_erase_step (x0 : DV) {d : DV} (h : P_erase_step (run cfg) x0 = some d) : (run cfg).p F_erase_step [x0] = some d := (fix_erase_step x0).trans h

noncomputable def code_erase_told : Code := Try.f46.body.getD .skip
noncomputable def P_erase_told (R : Orc) (x0 : DV) : Option DV := evP cfg R fl_erase_told (retP cfg.P Try.f46) [] code_erase_told (initSt Try.f46 [(x0, .val)] [])
noncomputable def P_erase_told_16 (R : Orc) (t5 : DV) (b1 : DV) (b2_0 : DV) (b2_1 : DV) (b2_2 : DV) (b2_3 : DV) (b2_4 : DV) (b2_5 : DV) (b2_6 : DV) (b2_7 : DV) (b2_8 : DV) (b4_0 : DV) (b4_1 : DV) (b4_2 : DV) (b4_3 : DV) (b4_4 : DV) (b4_5 : DV) (b4_6 : DV) (b4_7 : DV) (b4_8 : DV) : Option DV := evP cfg R fl_erase_told (retP cfg.P Try.f46) [true, true, false, true, false, true, false] code_erase_told ⟨spread .undef 62 0 [(5, t5)], spread .val 62 0 [(1, (.loc 1 0)), (2, (.loc 2 0)), (4, (.loc 4 0))], spread none 62 0 [(1, some [((proj 0 b1), .val), ((proj 1 b1), .val), ((proj 2 b1), .val), ((proj 3 b1), .val), ((proj 4 b1), .val), ((proj 5 b1), .val), ((proj 6 b1), .val), ((proj 7 b1), .val), ((proj 8 b1), .val), ((proj 9 b1), .val), ((proj 10 b1), .val), ((proj 11 b1), .val), ((proj 12 b1), .val), ((proj 13 b1), .val), ((proj 14 b1), .val), ((proj 15 b1), .val)]), (2, some [(b2_0, .val), (b2_1, .val), (b2_2, .val), (b2_3, .val), (b2_4, .val), (b2_5, .val), (b2_6, .val), (b2_7, .val), (b2_8, .val)]), (4, some [(b4_0, .val), (b4_1, .val), (b4_2, .val), (b4_3, .val), (b4_4, .val), (b4_5, .val), (b4_6, .val), (b4_7, .val), (b4_8, .val)])], []⟩
noncomputable def P_erase_told_7h (R : Orc) (t5 : DV) (t23 : DV) (t24 : DV) (t25 : DV) (b2_0 : DV) (b2_1 : DV) (b2_2 : DV) (b2_3 : DV) (b2_4 : DV) (b2_5 : DV) (b2_6 : DV) (b2_7 : DV) (b2_8 : DV) (b4_0 : DV) (b4_1 : DV) (b4_2 : DV) (b4_3 : DV) (b4_4 : DV) (b4_5 : DV) (b4_6 : DV) (b4_7 : DV) (b4_8 : DV) : Option DV := headP cfg R fl_erase_told (retP cfg.P Try.f46) [true, true, false, true, false, true, true, true, true, true, true, true, true, true, false] code_erase_told ⟨spread .undef 62 0 [(5, t5), (23, t23), (24, t24), (25, t25)], spread .val 62 0 [(2, (.loc 2 0)), (4, (.loc 4 0))], spread none 62 0 [(2, some [(b2_0, .val), (b2_1, .val), (b2_2, .val), (b2_3, .val), (b2_4, .val), (b2_5, .val), (b2_6, .val), (b2_7, .val), (b2_8, .val)]), (4, some [(b4_0, .val), (b4_1, .val), (b4_2, .val), (b4_3, .val), (b4_4, .val), (b4_5, .val), (b4_6, .val), (b4_7, .own), (b4_8, .own)])], []⟩
theorem eq_erase_told (R : Orc) (x0 : DV) : P_erase_told R x0 =
  (og (isAggN 16 x0) <|
  og (isCell (proj 5 x0)) <|
  og (isCell (proj 6 x0)) <|
  ob (dBin .eql (proj 0 x0) (.int .i64 2)) fun d1 =>
  oif d1
   (P_erase_told_16 R (.int .i64 1) x0 (.int .i64 0) (.int .i64 0) (.str ⟨#[]⟩) (.int .i64 0) (.int .i64 0) (.int .i64 0) (.bool false) (.list 5 []) (.list 9 []) (.int .i64 0) (proj 5 x0) (proj 6 x0) (.int .i64 0) (.int .i64 0) (.int .i64 0) (.bool false) (.list 5 []) (.list 9 []))
   (ob (dBin .eql (proj 0 x0) (.int .i64 3)) fun d2 =>
   oif d2
    (P_erase_told_16 R (.int .i64 1) x0 (.int .i64 0) (.int .i64 0) (.str ⟨#[]⟩) (.int .i64 0) (.int .i64 0) (.int .i64 0) (.bool false) (.list 5 []) (.list 9 []) (.int .i64 0) (proj 5 x0) (proj 6 x0) (.int .i64 0) (.int .i64 0) (.int .i64 0) (.bool false) (.list 5 []) (.list 9 []))
    (ob (dBin .eql (proj 0 x0) (.int .i64 4)) fun d3 =>
    oif d3
     (P_erase_told_16 R (.int .i64 1) x0 (.int .i64 0) (.int .i64 0) (.str ⟨#[]⟩) (.int .i64 0) (.int .i64 0) (.int .i64 0) (.bool false) (.list 5 []) (.list 9 []) (.int .i64 0) (proj 5 x0) (proj 6 x0) (.int .i64 0) (.int .i64 0) (.int .i64 0) (.bool false) (.list 5 []) (.list 9 []))
     (ob (dBin .eql (proj 0 x0) (.int .i64 5)) fun d4 =>
     oif d4
      (P_erase_told_16 R (.int .i64 1) x0 (.int .i64 0) (.int .i64 0) (.str ⟨#[]⟩) (.int .i64 0) (.int .i64 0) (.int .i64 0) (.bool false) (.list 5 []) (.list 9 []) (.int .i64 0) (proj 5 x0) (proj 6 x0) (.int .i64 0) (.int .i64 0) (.int .i64 0) (.bool false) (.list 5 []) (.list 9 []))
      (ob (dBin .eql (proj 0 x0) (.int .i64 7)) fun d5 =>
      oif d5
       (some (.tup [(.agg [(.int .i64 6), (proj 5 x0), (proj 6 x0), (.int .i64 0), (.int .i64 0), (.int .i64 0), (.bool false), (.list 5 []), (.list 9 [])]), (.int .i64 1)]))
       (ob (dBin .eql (proj 0 x0) (.int .i64 9)) fun d6 =>
       oif d6
        (some (.tup [(.agg [(.int .i64 8), (proj 5 x0), (proj 6 x0), (.int .i64 0), (.int .i64 0), (.int .i64 0), (.bool false), (.list 5 []), (.list 9 [])]), (.int .i64 1)]))
        (ob (dBin .eql (proj 0 x0) (.int .i64 8)) fun d7 =>
        oif d7
         (ob (dLen (proj 15 x0)) fun d8 =>
         P_erase_told_7h R (.int .i64 1) (proj 15 x0) d8 (.int .i64 0) (.int .i64 0) (.int .i64 0) (.str ⟨#[]⟩) (.int .i64 0) (.int .i64 0) (.int .i64 0) (.bool false) (.list 5 []) (.list 9 []) (.int .i64 7) (proj 5 x0) (proj 6 x0) (.int .i64 0) (.int .i64 0) (.int .i64 0) (.bool false) (.list 5 []) (.list 9 []))
         (ob (dLen (proj 15 x0)) fun d9 =>
         P_erase_told_7h R (.int .i64 1) (proj 15 x0) d9 (.int .i64 0) (.int .i64 0) (.int .i64 0) (.str ⟨#[]⟩) (.int .i64 0) (.int .i64 0) (.int .i64 0) (.bool false) (.list 5 []) (.list 9 []) (.int .i64 5) (proj 5 x0) (proj 6 x0) (.int .i64 0) (.int .i64 0) (.int .i64 0) (.bool false) (.list 5 []) (.list 9 []))))))))) := evP_of [16] (by kernel_rfl)
theorem eq_erase_told_16 (R : Orc) (t5 : DV) (b1 : DV) (b2_0 : DV) (b2_1 : DV) (b2_2 : DV) (b2_3 : DV) (b2_4 : DV) (b2_5 : DV) (b2_6 : DV) (b2_7 : DV) (b2_8 : DV) (b4_0 : DV) (b4_1 : DV) (b4_2 : DV) (b4_3 : DV) (b4_4 : DV) (b4_5 : DV) (b4_6 : DV) (b4_7 : DV) (b4_8 : DV) : P_erase_told_16 R t5 b1 b2_0 b2_1 b2_2 b2_3 b2_4 b2_5 b2_6 b2_7 b2_8 b4_0 b4_1 b4_2 b4_3 b4_4 b4_5 b4_6 b4_7 b4_8 =
  (ob (dBin .sub (proj 0 b1) (.int .i64 2)) fun d1 =>
  ob (dBin .add d1 (.int .i64 1)) fun d2 =>
  og (isCell d2) <|
  some (.tup [(.agg [d2, b4_1, b4_2, b4_3, b4_4, b4_5, b4_6, b4_7, b4_8]), t5])) := evP_of [16] (by kernel_rfl)
theorem fix_erase_told (x0 : DV) : (run cfg).p F_erase_told [x0] = P_erase_told (run cfg) x0 :=
  (fix_pure (C := cfg) (f := F_erase_told) (fn := Try.f46) (c := code_erase_told) (by kernel_rfl) Try.func46 (by kernel_rfl)).trans (by kernel_rfl)
theorem call_erase_told (x0 : DV) {d : DV} (h : P_erase_told (run cfg) x0 = some d) : (run cfg).p F_erase_told [x0] = some d := (fix_erase_told x0).trans h

noncomputable def code_r05_SamePat : Code := Try.f47.body.getD .skip
noncomputable def P_r05_SamePat (R : Orc) (x0 : DV) (x1 : DV) : Option DV := evP cfg R fl_r05_SamePat (retP cfg.P Try.f47) [] code_r05_SamePat (initSt Try.f47 [(x0, .val), (x1, .val)] [])
noncomputable def P_r05_SamePat_4h (R : Orc) (t5 : DV) (b2 : DV) (b3 : DV) : Option DV := headP cfg R fl_r05_SamePat (retP cfg.P Try.f47) [true, true, false, true, false] code_r05_SamePat ⟨spread .undef 60 0 [(5, t5)], spread .val 60 0 [(2, (.loc 2 0)), (3, (.loc 3 0))], spread none 60 0 [(2, some [((proj 0 b2), .val), ((proj 1 b2), .val), ((proj 2 b2), .val), ((proj 3 b2), .val), ((proj 4 b2), .val), ((proj 5 b2), .val), ((proj 6 b2), .val)]), (3, some [((proj 0 b3), .val), ((proj 1 b3), .val), ((proj 2 b3), .val), ((proj 3 b3), .val), ((proj 4 b3), .val), ((proj 5 b3), .val), ((proj 6 b3), .val)])], []⟩
set_option maxRecDepth 100000 in
theorem eq_r05_SamePat (R : Orc) (x0 : DV) (x1 : DV) : P_r05_SamePat R x0 x1 =
  (og (isAggN 7 x0) <|
  og (isAggN 7 x1) <|
  ob (dBin .neq (proj 0 x0) (proj 0 x1)) fun d1 =>
  ogd d1
   (some (.bool false))
   (ob (dBin .neq (proj 3 x0) (proj 3 x1)) fun d2 =>
   ogd d2
    (some (.bool false))
    (ob (dBin .neq (proj 4 x0) (proj 4 x1)) fun d3 =>
    ogd d3
     (some (.bool false))
     (ob (dBin .neq (proj 5 x0) (proj 5 x1)) fun d4 =>
     ogd d4
      (some (.bool false))
      (ob (dLen (proj 6 x0)) fun d5 =>
      ob (dLen (proj 6 x1)) fun d6 =>
      ob (dBin .neq d5 d6) fun d7 =>
      oif d7
       (some (.bool false))
       (P_r05_SamePat_4h R (.int .i64 0) x0 x1))
      none)
     none)
    none)
   none) := evP_of [] (by kernel_rfl)
theorem eq_r05_SamePat_4h (R : Orc) (t5 : DV) (b2 : DV) (b3 : DV) : P_r05_SamePat_4h R t5 b2 b3 =
  (ob (dLen (proj 6 b2)) fun d1 =>
  ob (dBin .lss t5 d1) fun d2 =>
  oif d2
   (ob (dIdx 7 (proj 6 b2) t5) fun d3 =>
   ob (dIdx 7 (proj 6 b3) t5) fun d4 =>
   ob (R.p F_r05_SamePat [(.agg [(proj 0 d3), (proj 1 d3), (proj 2 d3), (proj 3 d3), (proj 4 d3), (proj 5 d3), (proj 6 d3)]), (.agg [(proj 0 d4), (proj 1 d4), (proj 2 d4), (proj 3 d4), (proj 4 d4), (proj 5 d4), (proj 6 d4)])]) fun d5 =>
   ob (dUn .not d5) fun d6 =>
   oif d6
    (some (.bool false))
    (ob (dBin .add t5 (.int .i64 1)) fun d7 =>
    P_r05_SamePat_4h R d7 b2 b3))
   (some (.bool true))) := headP_of [] (by kernel_rfl)
theorem fix_r05_SamePat (x0 : DV) (x1 : DV) : (run cfg).p F_r05_SamePat [x0, x1] = P_r05_SamePat (run cfg) x0 x1 :=
  (fix_pure (C := cfg) (f := F_r05_SamePat) (fn := Try.f47) (c := code_r05_SamePat) (by kernel_rfl) Try.func47 (by kernel_rfl)).trans (by kernel_rfl)
theorem call_r05_SamePat (x0 : DV) (x1 : DV) {d : DV} (h : P_r05_SamePat (run cfg) x0 x1 = some d) : (run cfg).p F_r05_SamePat [x0, x1] = some d := (fix_r05_SamePat x0 x1).trans h

noncomputable def code_r03_None : Code := Try.f48.body.getD .skip
noncomputable def P_r03_None (R : Orc) (x0 : DV) : Option DV := evP cfg R fl_r03_None (retP cfg.P Try.f48) [] code_r03_None (initSt Try.f48 [(x0, .val)] [])
theorem eq_r03_None (R : Orc) (x0 : DV) : P_r03_None R x0 =
  (og (isAggN 3 x0) <|
  ob (dBin .eql (proj 0 x0) (.int .i64 0)) fun d1 =>
  ogd d1
   (ob (dBin .eql (proj 1 x0) (.int .i64 0)) fun d2 =>
   ogd d2
    (ob (dLen (proj 2 x0)) fun d3 =>
    ob (dBin .eql d3 (.int .i64 0)) fun d4 =>
    some d4)
    (some (.bool false))
    none)
   (some (.bool false))
   none) := evP_of [] (by kernel_rfl)
theorem fix_r03_None (x0 : DV) : (run cfg).p F_r03_None [x0] = P_r03_None (run cfg) x0 :=
  (fix_pure (C := cfg) (f := F_r03_None) (fn := Try.f48) (c := code_r03_None) (by kernel_rfl) Try.func48 (by kernel_rfl)).trans (by kernel_rfl)
theorem call_r03_None (x0 : DV) {d : DV} (h : P_r03_None (run cfg) x0 = some d) : (run cfg).p F_r03_None [x0] = some d := (fix_r03_None x0).trans h

noncomputable def code_r03_Right : Code := Try.f49.body.getD .skip
noncomputable def P_r03_Right (R : Orc) (x0 : DV) : Option DV := evP cfg R fl_r03_Right (retP cfg.P Try.f49) [] code_r03_Right (initSt Try.f49 [(x0, .val)] [])
noncomputable def P_r03_Right_4h (R : Orc) (t3 : DV) (b1 : DV) : Option DV := headP cfg R fl_r03_Right (retP cfg.P Try.f49) [true, true, false, true, false] code_r03_Right ⟨spread .undef 45 0 [(3, t3)], spread .val 45 0 [(1, (.loc 1 0))], spread none 45 0 [(1, some [((proj 0 b1), .val), ((proj 1 b1), .val), ((proj 2 b1), .val)])], []⟩
set_option maxRecDepth 100000 in
theorem eq_r03_Right (R : Orc) (x0 : DV) : P_r03_Right R x0 =
  (og (isAggN 3 x0) <|
  ob (R.p F_r03_Kids [(proj 0 x0)]) fun d1 =>
  ob (dLen (proj 2 x0)) fun d2 =>
  ob (dBin .neq d1 d2) fun d3 =>
  ogd d3
   (some (.bool false))
   (ob (dBin .lss (proj 1 x0) (.int .i64 0)) fun d4 =>
   ogd d4
    (some (.bool false))
    (ob (dBin .gtr (proj 1 x0) (.int .i64 1048576)) fun d5 =>
    ogd d5
     (some (.bool false))
     (ob (dBin .neq (proj 0 x0) (.int .i64 6)) fun d6 =>
     ogd d6
      (ob (dBin .neq (proj 1 x0) (.int .i64 0)) fun d7 =>
      oif d7
       (some (.bool false))
       (P_r03_Right_4h R (.int .i64 0) x0))
      (P_r03_Right_4h R (.int .i64 0) x0)
      none)
     none)
    none)
   none) := evP_of [] (by kernel_rfl)
theorem eq_r03_Right_4h (R : Orc) (t3 : DV) (b1 : DV) : P_r03_Right_4h R t3 b1 =
  (ob (dLen (proj 2 b1)) fun d1 =>
  ob (dBin .lss t3 d1) fun d2 =>
  oif d2
   (ob (dIdx 3 (proj 2 b1) t3) fun d3 =>
   ob (R.p F_r03_Right [(.agg [(proj 0 d3), (proj 1 d3), (proj 2 d3)])]) fun d4 =>
   ob (dUn .not d4) fun d5 =>
   oif d5
    (some (.bool false))
    (ob (dBin .add t3 (.int .i64 1)) fun d6 =>
    P_r03_Right_4h R d6 b1))
   (some (.bool true))) := headP_of [] (by kernel_rfl)
theorem fix_r03_Right (x0 : DV) : (run cfg).p F_r03_Right [x0] = P_r03_Right (run cfg) x0 :=
  (fix_pure (C := cfg) (f := F_r03_Right) (fn := Try.f49) (c := code_r03_Right) (by kernel_rfl) Try.func49 (by kernel_rfl)).trans (by kernel_rfl)
theorem call_r03_Right (x0 : DV) {d : DV} (h : P_r03_Right (run cfg) x0 = some d) : (run cfg).p F_r03_Right [x0] = some d := (fix_r03_Right x0).trans h

noncomputable def code_r03_Without : Code := Try.f50.body.getD .skip
noncomputable def P_r03_Without (R : Orc) (x0 : DV) (x1 : DV) : Option DV := evP cfg R fl_r03_Without (retP cfg.P Try.f50) [] code_r03_Without (initSt Try.f50 [(x0, .val), (x1, .val)] [])
noncomputable def P_r03_Without_4h (R : Orc) (t1 : DV) (t5 : DV) (b2 : DV) : Option DV := headP cfg R fl_r03_Without (retP cfg.P Try.f50) [true, true, false, true, false] code_r03_Without ⟨spread .undef 25 0 [(1, t1), (5, t5)], spread .val 25 0 [(2, (.loc 2 0))], spread none 25 0 [(2, some [((proj 0 b2), .val), ((proj 1 b2), .val), ((proj 2 b2), .val)])], []⟩
theorem eq_r03_Without (R : Orc) (x0 : DV) (x1 : DV) : P_r03_Without R x0 x1 =
  (og (isAggN 3 x0) <|
  ob (dBin .eql (proj 0 x0) x1) fun d1 =>
  oif d1
   (some (.bool false))
   (P_r03_Without_4h R x1 (.int .i64 0) x0)) := evP_of [] (by kernel_rfl)
theorem eq_r03_Without_4h (R : Orc) (t1 : DV) (t5 : DV) (b2 : DV) : P_r03_Without_4h R t1 t5 b2 =
  (ob (dLen (proj 2 b2)) fun d1 =>
  ob (dBin .lss t5 d1) fun d2 =>
  oif d2
   (ob (dIdx 3 (proj 2 b2) t5) fun d3 =>
   ob (R.p F_r03_Without [(.agg [(proj 0 d3), (proj 1 d3), (proj 2 d3)]), t1]) fun d4 =>
   ob (dUn .not d4) fun d5 =>
   oif d5
    (some (.bool false))
    (ob (dBin .add t5 (.int .i64 1)) fun d6 =>
    P_r03_Without_4h R t1 d6 b2))
   (some (.bool true))) := headP_of [] (by kernel_rfl)
theorem fix_r03_Without (x0 : DV) (x1 : DV) : (run cfg).p F_r03_Without [x0, x1] = P_r03_Without (run cfg) x0 x1 :=
  (fix_pure (C := cfg) (f := F_r03_Without) (fn := Try.f50) (c := code_r03_Without) (by kernel_rfl) Try.func50 (by kernel_rfl)).trans (by kernel_rfl)
theorem call_r03_Without (x0 : DV) (x1 : DV) {d : DV} (h : P_r03_Without (run cfg) x0 x1 = some d) : (run cfg).p F_r03_Without [x0, x1] = some d := (fix_r03_Without x0 x1).trans h

noncomputable def code_r01_lower : Code := Try.f51.body.getD .skip
noncomputable def P_r01_lower (R : Orc) (x0 : DV) : Option DV := evP cfg R fl_r01_lower (retP cfg.P Try.f51) [] code_r01_lower (initSt Try.f51 [(x0, .val)] [])
theorem eq_r01_lower (R : Orc) (x0 : DV) : P_r01_lower R x0 =
  (ob (dBin .geq x0 (.int .u8 97)) fun d1 =>
  ogd d1
   (ob (dBin .leq x0 (.int .u8 122)) fun d2 =>
   some d2)
   (some (.bool false))
   none) := evP_of [] (by kernel_rfl)
theorem fix_r01_lower (x0 : DV) : (run cfg).p F_r01_lower [x0] = P_r01_lower (run cfg) x0 :=
  (fix_pure (C := cfg) (f := F_r01_lower) (fn := Try.f51) (c := code_r01_lower) (by kernel_rfl) Try.func51 (by kernel_rfl)).trans (by kernel_rfl)
theorem call_r01_lower (x0 : DV) {d : DV} (h : P_r01_lower (run cfg) x0 = some d) : (run cfg).p F_r01_lower [x0] = some d := (fix_r01_lower x0).trans h

noncomputable def code_r01_part : Code := Try.f52.body.getD .skip
noncomputable def P_r01_part (R : Orc) (x0 : DV) : Option DV := evP cfg R fl_r01_part (retP cfg.P Try.f52) [] code_r01_part (initSt Try.f52 [(x0, .val)] [])
set_option maxRecDepth 100000 in
theorem eq_r01_part (R : Orc) (x0 : DV) : P_r01_part R x0 =
  (ob (R.p F_r01_lower [x0]) fun d1 =>
  ogd d1
   (some (.bool true))
   (ob (R.p F_r01_digit [x0]) fun d2 =>
   ogd d2
    (some (.bool true))
    (ob (dBin .geq x0 (.int .u8 65)) fun d3 =>
    ogd d3
     (ob (dBin .leq x0 (.int .u8 90)) fun d4 =>
     ogd d4
      (some (.bool true))
      (ob (dBin .eql x0 (.int .u8 95)) fun d5 =>
      ogd d5
       (some (.bool true))
       (ob (dBin .eql x0 (.int .u8 39)) fun d6 =>
       some d6)
       none)
      none)
     (ob (dBin .eql x0 (.int .u8 95)) fun d7 =>
     ogd d7
      (some (.bool true))
      (ob (dBin .eql x0 (.int .u8 39)) fun d8 =>
      some d8)
      none)
     none)
    none)
   none) := evP_of [] (by kernel_rfl)
theorem fix_r01_part (x0 : DV) : (run cfg).p F_r01_part [x0] = P_r01_part (run cfg) x0 :=
  (fix_pure (C := cfg) (f := F_r01_part) (fn := Try.f52) (c := code_r01_part) (by kernel_rfl) Try.func52 (by kernel_rfl)).trans (by kernel_rfl)
theorem call_r01_part (x0 : DV) {d : DV} (h : P_r01_part (run cfg) x0 = some d) : (run cfg).p F_r01_part [x0] = some d := (fix_r01_part x0).trans h

noncomputable def code_r01_Key : Code := Try.f53.body.getD .skip
noncomputable def P_r01_Key (R : Orc) (x0 : DV) : Option DV := evP cfg R fl_r01_Key (retP cfg.P Try.f53) [] code_r01_Key (initSt Try.f53 [(x0, .val)] [])
noncomputable def P_r01_Key_2h (R : Orc) (t0 : DV) (t3 : DV) : Option DV := headP cfg R fl_r01_Key (retP cfg.P Try.f53) [true, false, true, false] code_r01_Key ⟨spread .undef 40 0 [(0, t0), (3, t3)], spread .val 40 0 [], spread none 40 0 [], []⟩
noncomputable def P_r01_Key_8h (R : Orc) (t0 : DV) (t4 : DV) (t5 : DV) : Option DV := headP cfg R fl_r01_Key (retP cfg.P Try.f53) [true, true, true, false, true, false] code_r01_Key ⟨spread .undef 40 0 [(0, t0), (4, t4), (5, t5)], spread .val 40 0 [], spread none 40 0 [], []⟩
theorem eq_r01_Key (R : Orc) (x0 : DV) : P_r01_Key R x0 =
  (P_r01_Key_2h R x0 (.int .i64 0)) := evP_of [] (by kernel_rfl)
theorem eq_r01_Key_2h (R : Orc) (t0 : DV) (t3 : DV) : P_r01_Key_2h R t0 t3 =
  (ob (dLenS t0) fun d1 =>
  ob (dBin .lss t3 d1) fun d2 =>
  oif d2
   (ob (dStrIdx t0 t3) fun d3 =>
   ob (R.p F_r01_lower [d3]) fun d4 =>
   ob (dUn .not d4) fun d5 =>
   oif d5
    (some (.bool false))
    (ob (dBin .add t3 (.int .i64 1)) fun d6 =>
    P_r01_Key_2h R t0 d6))
   (ob (dBin .add (.str ⟨#[32]⟩) t0) fun d7 =>
   ob (dBin .add d7 (.str ⟨#[32]⟩)) fun d8 =>
   P_r01_Key_8h R t0 d8 (.int .i64 0))) := headP_of [] (by kernel_rfl)
theorem eq_r01_Key_8h (R : Orc) (t0 : DV) (t4 : DV) (t5 : DV) : P_r01_Key_8h R t0 t4 t5 =
  (ob (dLenS t4) fun d1 =>
  ob (dBin .add t5 d1) fun d2 =>
  ob (dBin .leq d2 (.int .i64 81)) fun d3 =>
  oif d3
   (ob (dLenS t0) fun d4 =>
   ob (dBin .gtr d4 (.int .i64 0)) fun d5 =>
   ogd d5
    (ob (dLenS t4) fun d6 =>
    ob (dBin .add t5 d6) fun d7 =>
    ob (dSliceS (.str ⟨#[32, 108, 101, 116, 32, 114, 101, 99, 32, 105, 110, 32, 102, 117, 110, 32, 105, 102, 32, 116, 104, 101, 110, 32, 101, 108, 115, 101, 32, 109, 97, 116, 99, 104, 32, 119, 105, 116, 104, 32, 101, 110, 100, 32, 116, 114, 117, 101, 32, 102, 97, 108, 115, 101, 32, 105, 110, 116, 32, 98, 111, 111, 108, 32, 115, 116, 114, 105, 110, 103, 32, 117, 110, 105, 116, 32, 108, 105, 115, 116, 32]⟩) (some t5) (some d7)) fun d8 =>
    ob (dBin .eql d8 t4) fun d9 =>
    oif d9
     (some (.bool true))
     (ob (dBin .add t5 (.int .i64 1)) fun d10 =>
     P_r01_Key_8h R t0 t4 d10))
    (ob (dBin .add t5 (.int .i64 1)) fun d11 =>
    P_r01_Key_8h R t0 t4 d11)
    none)
   (some (.bool false))) := headP_of [] (by kernel_rfl)
theorem fix_r01_Key (x0 : DV) : (run cfg).p F_r01_Key [x0] = P_r01_Key (run cfg) x0 :=
  (fix_pure (C := cfg) (f := F_r01_Key) (fn := Try.f53) (c := code_r01_Key) (by kernel_rfl) Try.func53 (by kernel_rfl)).trans (by kernel_rfl)
theorem call_r01_Key (x0 : DV) {d : DV} (h : P_r01_Key (run cfg) x0 = some d) : (run cfg).p F_r01_Key [x0] = some d := (fix_r01_Key x0).trans h

noncomputable def code_r05_names : Code := Try.f54.body.getD .skip
noncomputable def P_r05_names (R : Orc) (x0 : DV) (x1 : DV) (sg : List SObj) : Option (List DV × List SObj) := evP cfg R fl_r05_names (retR cfg.P Try.f54 sig_r05_names) [] code_r05_names (initSt Try.f54 [(x0, .val), (x1, .own)] sg)
noncomputable def P_r05_names_4h (R : Orc) (t1 : DV) (t5 : DV) (b2 : DV) (sg : List SObj) : Option (List DV × List SObj) := headP cfg R fl_r05_names (retR cfg.P Try.f54 sig_r05_names) [true, true, false, true, false] code_r05_names ⟨spread .undef 29 0 [(1, t1), (5, t5)], spread .val 29 0 [(1, .own), (2, (.loc 2 0))], spread none 29 0 [(2, some [((proj 0 b2), .val), ((proj 1 b2), .val), ((proj 2 b2), .val), ((proj 3 b2), .val), ((proj 4 b2), .val), ((proj 5 b2), .val), ((proj 6 b2), .val)])], sg⟩
theorem eq_r05_names (R : Orc) (x0 : DV) (x1 : DV) (sg : List SObj) : P_r05_names R x0 x1 sg =
  (og (isAggN 7 x0) <|
  ob (dBin .eql (proj 0 x0) (.int .i64 2)) fun d1 =>
  oif d1
   (og (isCell (proj 3 x0)) <|
   ob (dApp 1 x1 (.list 1 [(proj 3 x0)])) fun d2 =>
   P_r05_names_4h R d2 (.int .i64 0) x0 sg)
   (P_r05_names_4h R x1 (.int .i64 0) x0 sg)) := evP_of [] (by kernel_rfl)
theorem eq_r05_names_4h (R : Orc) (t1 : DV) (t5 : DV) (b2 : DV) (sg : List SObj) : P_r05_names_4h R t1 t5 b2 sg =
  (ob (dLen (proj 6 b2)) fun d1 =>
  ob (dBin .lss t5 d1) fun d2 =>
  oif d2
   (ob (dIdx 7 (proj 6 b2) t5) fun d3 =>
   ob (R.r F_r05_names [((.agg [(proj 0 d3), (proj 1 d3), (proj 2 d3), (proj 3 d3), (proj 4 d3), (proj 5 d3), (proj 6 d3)]), .val), (t1, .own)] sg) fun q4 =>
   ob (dBin .add t5 (.int .i64 1)) fun d5 =>
   P_r05_names_4h R (q4.1.getD 0 .undef) d5 b2 q4.2)
   (some ([t1], sg))) := headP_of [] (by kernel_rfl)
theorem fix_r05_names (x0 : DV) (x1 : DV) (sg : List SObj) : (run cfg).r F_r05_names [(x0, .val), (x1, .own)] sg = P_r05_names (run cfg) x0 x1 sg :=
  (fix_raw (C := cfg) (f := F_r05_names) (s := sig_r05_names) (fn := Try.f54) (c := code_r05_names) (by kernel_rfl) Try.func54 (by kernel_rfl)).trans (by kernel_rfl)
theorem call_r05_names (x0 : DV) (x1 : DV) (sg : List SObj) {q : List DV × List SObj} (h : P_r05_names (run cfg) x0 x1 sg = some q) : (run cfg).r F_r05_names [(x0, .val), (x1, .own)] sg = some q := (fix_r05_names x0 x1 sg).trans h

noncomputable def code_tree_shapeOf : Code := Try.f57.body.getD .skip
noncomputable def P_tree_shapeOf (R : Orc) (x0 : DV) : Option DV := evP cfg R fl_tree_shapeOf (retP cfg.P Try.f57) [] code_tree_shapeOf (initSt Try.f57 [(x0, .val)] [])
set_option maxRecDepth 100000 in
theorem eq_tree_shapeOf (R : Orc) (x0 : DV) : P_tree_shapeOf R x0 =
  (og (isAggN 16 x0) <|
  ob (dBin .eql (proj 0 x0) (.int .i64 1)) fun d1 =>
  oif d1
   (some (.tup [(.agg [(.bool true), (.bool false), (.bool false), (.bool false), (.bool false), (.bool false), (.bool false), (.bool false), (.int .i64 0)]), (.bool true)]))
   (ob (dBin .eql (proj 0 x0) (.int .i64 2)) fun d2 =>
   oif d2
    (some (.tup [(.agg [(.bool false), (.bool false), (.bool true), (.bool false), (.bool false), (.bool false), (.bool false), (.bool false), (.int .i64 0)]), (.bool true)]))
    (ob (dBin .eql (proj 0 x0) (.int .i64 3)) fun d3 =>
    oif d3
     (some (.tup [(.agg [(.bool false), (.bool false), (.bool true), (.bool false), (.bool false), (.bool false), (.bool false), (.bool false), (.int .i64 0)]), (.bool true)]))
     (ob (dBin .eql (proj 0 x0) (.int .i64 4)) fun d4 =>
     oif d4
      (some (.tup [(.agg [(.bool false), (.bool false), (.bool false), (.bool true), (.bool false), (.bool false), (.bool false), (.bool false), (.int .i64 0)]), (.bool true)]))
      (ob (dBin .eql (proj 0 x0) (.int .i64 5)) fun d5 =>
      oif d5
       (some (.tup [(.agg [(.bool false), (.bool false), (.bool false), (.bool false), (.bool false), (.bool false), (.bool false), (.bool false), (.int .i64 0)]), (.bool true)]))
       (ob (dBin .eql (proj 0 x0) (.int .i64 7)) fun d6 =>
       oif d6
        (some (.tup [(.agg [(.bool false), (.bool false), (.bool false), (.bool false), (.bool false), (.bool false), (.bool false), (.bool false), (.int .i64 0)]), (.bool true)]))
        (ob (dBin .eql (proj 0 x0) (.int .i64 6)) fun d7 =>
        oif d7
         (some (.tup [(.agg [(.bool false), (.bool false), (.bool false), (.bool false), (.bool false), (.bool false), (.bool false), (.bool false), (.int .i64 2)]), (.bool true)]))
         (ob (dBin .eql (proj 0 x0) (.int .i64 8)) fun d8 =>
         oif d8
          (some (.tup [(.agg [(.bool false), (.bool false), (.bool false), (.bool false), (.bool false), (.bool false), (.bool false), (.bool false), (.int .i64 2)]), (.bool true)]))
          (ob (dBin .eql (proj 0 x0) (.int .i64 10)) fun d9 =>
          oif d9
           (some (.tup [(.agg [(.bool false), (.bool false), (.bool false), (.bool false), (.bool false), (.bool false), (.bool false), (.bool false), (.int .i64 2)]), (.bool true)]))
           (ob (dBin .eql (proj 0 x0) (.int .i64 9)) fun d10 =>
           oif d10
            (some (.tup [(.agg [(.bool true), (.bool false), (.bool false), (.bool false), (.bool false), (.bool true), (.bool false), (.bool false), (.int .i64 1)]), (.bool true)]))
            (ob (dBin .eql (proj 0 x0) (.int .i64 11)) fun d11 =>
            oif d11
             (some (.tup [(.agg [(.bool true), (.bool false), (.bool false), (.bool false), (.bool false), (.bool true), (.bool false), (.bool false), (.int .i64 2)]), (.bool true)]))
             (ob (dBin .eql (proj 0 x0) (.int .i64 12)) fun d12 =>
             oif d12
              (some (.tup [(.agg [(.bool true), (.bool true), (.bool false), (.bool false), (.bool false), (.bool true), (.bool true), (.bool false), (.int .i64 2)]), (.bool true)]))
              (ob (dBin .eql (proj 0 x0) (.int .i64 13)) fun d13 =>
              oif d13
               (some (.tup [(.agg [(.bool false), (.bool false), (.bool false), (.bool false), (.bool false), (.bool false), (.bool false), (.bool false), (.int .i64 3)]), (.bool true)]))
               (ob (dBin .eql (proj 0 x0) (.int .i64 14)) fun d14 =>
               oif d14
                (ob (dLen (proj 14 x0)) fun d15 =>
                ob (dBin .add d15 (.int .i64 1)) fun d16 =>
                og (isCell d16) <|
                ob (dLen (proj 14 x0)) fun d17 =>
                ob (dBin .gtr d17 (.int .i64 0)) fun d18 =>
                some (.tup [(.agg [(.bool false), (.bool false), (.bool false), (.bool false), (.bool false), (.bool false), (.bool false), (.bool false), d16]), d18]))
                (ob (dBin .eql (proj 0 x0) (.int .i64 15)) fun d19 =>
                oif d19
                 (some (.tup [(.agg [(.bool false), (.bool false), (.bool false), (.bool false), (.bool false), (.bool true), (.bool false), (.bool true), (.int .i64 1)]), (.bool true)]))
                 (ob (dBin .eql (proj 0 x0) (.int .i64 16)) fun d20 =>
                 oif d20
                  (some (.tup [(.agg [(.bool false), (.bool false), (.bool false), (.bool false), (.bool true), (.bool false), (.bool false), (.bool false), (.int .i64 2)]), (.bool true)]))
                  (some (.tup [(.agg [(.bool false), (.bool false), (.bool false), (.bool false), (.bool false), (.bool false), (.bool false), (.bool false), (.int .i64 0)]), (.bool false)])))))))))))))))))) := evP_of [] (by kernel_rfl)
theorem fix_tree_shapeOf (x0 : DV) : (run cfg).p F_tree_shapeOf [x0] = P_tree_shapeOf (run cfg) x0 :=
  (fix_pure (C := cfg) (f := F_tree_shapeOf) (fn := Try.f57) (c := code_tree_shapeOf) (by kernel_rfl) Try.func57 (by kernel_rfl)).trans (by kernel_rfl)
theorem call_tree_shapeOf (x0 : DV) {d : DV} (h : P_tree_shapeOf (run cfg) x0 = some d) : (run cfg).p F_tree_shapeOf [x0] = some d := (fix_tree_shapeOf x0).trans h

noncomputable def code_tree_none : Code := Try.f58.body.getD .skip
noncomputable def P_tree_none (R : Orc) (x0 : DV) : Option DV := evP cfg R fl_tree_none (retP cfg.P Try.f58) [] code_tree_none (initSt Try.f58 [(x0, .val)] [])
theorem eq_tree_none (R : Orc) (x0 : DV) : P_tree_none R x0 =
  (og (isAggN 3 x0) <|
  ob (dBin .eql (proj 0 x0) (.int .i64 0)) fun d1 =>
  ogd d1
   (ob (dBin .eql (proj 1 x0) (.int .i64 0)) fun d2 =>
   ogd d2
    (ob (dLen (proj 2 x0)) fun d3 =>
    ob (dBin .eql d3 (.int .i64 0)) fun d4 =>
    some d4)
    (some (.bool false))
    none)
   (some (.bool false))
   none) := evP_of [] (by kernel_rfl)
theorem fix_tree_none (x0 : DV) : (run cfg).p F_tree_none [x0] = P_tree_none (run cfg) x0 :=
  (fix_pure (C := cfg) (f := F_tree_none) (fn := Try.f58) (c := code_tree_none) (by kernel_rfl) Try.func58 (by kernel_rfl)).trans (by kernel_rfl)
theorem call_tree_none (x0 : DV) {d : DV} (h : P_tree_none (run cfg) x0 = some d) : (run cfg).p F_tree_none [x0] = some d := (fix_tree_none x0).trans h

noncomputable def code_tree_closed : Code := Try.f59.body.getD .skip
noncomputable def P_tree_closed (R : Orc) (x0 : DV) : Option DV := evP cfg R fl_tree_closed (retP cfg.P Try.f59) [] code_tree_closed (initSt Try.f59 [(x0, .val)] [])
theorem eq_tree_closed (R : Orc) (x0 : DV) : P_tree_closed R x0 =
  (og (isAggN 3 x0) <|
  ob (R.p F_typ_Check [(.agg [(proj 0 x0), (proj 1 x0), (proj 2 x0)])]) fun d1 =>
  ob (dBin .eql d1 (.int .i64 0)) fun d2 =>
  ogd d2
   (ob (R.p F_typ_Closed [(.agg [(proj 0 x0), (proj 1 x0), (proj 2 x0)])]) fun d3 =>
   some d3)
   (some (.bool false))
   none) := evP_of [] (by kernel_rfl)
theorem fix_tree_closed (x0 : DV) : (run cfg).p F_tree_closed [x0] = P_tree_closed (run cfg) x0 :=
  (fix_pure (C := cfg) (f := F_tree_closed) (fn := Try.f59) (c := code_tree_closed) (by kernel_rfl) Try.func59 (by kernel_rfl)).trans (by kernel_rfl)
theorem call_tree_closed (x0 : DV) {d : DV} (h : P_tree_closed (run cfg) x0 = some d) : (run cfg).p F_tree_closed [x0] = some d := (fix_tree_closed x0).trans h

noncomputable def code_tree_CheckPat : Code := Try.f60.body.getD .skip
noncomputable def P_tree_CheckPat (R : Orc) (x0 : DV) : Option DV := evP cfg R fl_tree_CheckPat (retP cfg.P Try.f60) [] code_tree_CheckPat (initSt Try.f60 [(x0, .val)] [])
noncomputable def P_tree_CheckPat_r0 (R : Orc) (t0 : DV) (t6 : DV) (sg : List SObj) : Option DV := evP cfg R fl_tree_CheckPat (retP cfg.P Try.f60) [true, true, false, true, false] code_tree_CheckPat ⟨spread .undef 32 0 [(0, t0), (4, (.tup [])), (6, t6), (8, (.tup [])), (9, (.tup [])), (10, (.tup [])), (11, (.tup [])), (12, (.tup [])), (13, (.tup [])), (14, (.tup [])), (15, (.tup [])), (16, (.tup [])), (17, (.tup [])), (18, (.tup [])), (19, (.tup [])), (20, (.tup [])), (21, (.tup [])), (22, (.tup [])), (23, (.tup [])), (24, (.tup [])), (25, (.tup [])), (26, (.tup [])), (27, (.tup [])), (28, (.tup [])), (29, (.tup [])), (30, (.tup [])), (31, (.tup []))], spread .val 32 0 [(1, (.ptr 0 0)), (2, (.ptr 1 0)), (3, (.ptr 3 0)), (5, (.map 2)), (7, (.fn 82 [(4, 0)]))], spread none 32 0 [], sg⟩
noncomputable def rcode_tree_CheckPat_r0 : Code := match (sub [true, true, false, true, false] code_tree_CheckPat []).1 with
  | .rangeFunc _ _ a b => .seq a b
  | c => c
noncomputable def X_tree_CheckPat_r0 (R : Orc) (t0 : DV) (t6 : DV) (o : Out) (sg : List SObj) : Option DV := konP cfg R fl_tree_CheckPat (retP cfg.P Try.f60) [true, true, false, true, false] code_tree_CheckPat o (outerSt ⟨spread .undef 32 0 [(0, t0), (4, (.tup [])), (6, t6), (8, (.tup [])), (9, (.tup [])), (10, (.tup [])), (11, (.tup [])), (12, (.tup [])), (13, (.tup [])), (14, (.tup [])), (15, (.tup [])), (16, (.tup [])), (17, (.tup [])), (18, (.tup [])), (19, (.tup [])), (20, (.tup [])), (21, (.tup [])), (22, (.tup [])), (23, (.tup [])), (24, (.tup [])), (25, (.tup [])), (26, (.tup [])), (27, (.tup [])), (28, (.tup [])), (29, (.tup [])), (30, (.tup [])), (31, (.tup []))], spread .val 32 0 [(1, (.ptr 0 0)), (2, (.ptr 1 0)), (3, (.ptr 3 0)), (5, (.map 2)), (7, (.fn 82 [(4, 0)]))], spread none 32 0 [], []⟩ sg)
noncomputable def B_tree_CheckPat_r0 (R : Orc) (t0 : DV) (t6 : DV) (I : List SObj → Option DV) (x : DV) (sg : List SObj) : Option DV := evP cfg R fl_tree_CheckPat (kr I (X_tree_CheckPat_r0 R t0 t6)) [] rcode_tree_CheckPat_r0 ⟨spread .undef 32 0 [(8, x)], spread .val 32 0 [(2, (.ptr 1 0)), (3, (.ptr 3 0))], spread none 32 0 [], sg⟩
noncomputable def I_tree_CheckPat_r0 (R : Orc) (t0 : DV) (t6 : DV) : List DV → List SObj → Option DV := foldIt (fun x I sg => B_tree_CheckPat_r0 R t0 t6 I x sg) (X_tree_CheckPat_r0 R t0 t6 .normal)
noncomputable def P_tree_CheckPat_6 (R : Orc) (t0 : DV) (t6 : DV) (I : List SObj → Option DV) (b4 : DV) (sg : List SObj) : Option DV := evP cfg R fl_tree_CheckPat (kr I (X_tree_CheckPat_r0 R t0 t6)) [true, false, true] rcode_tree_CheckPat_r0 ⟨spread .undef 32 0 [], spread .val 32 0 [(3, (.ptr 3 0)), (4, (.loc 4 0))], spread none 32 0 [(4, some [((proj 0 b4), .val), ((proj 1 b4), .val), ((proj 2 b4), .val), ((proj 3 b4), .val), ((proj 4 b4), .val), ((proj 5 b4), .val), ((proj 6 b4), .val)])], sg⟩
theorem eq_tree_CheckPat (R : Orc) (x0 : DV) : P_tree_CheckPat R x0 =
  (og (isAggN 7 x0) <|
  P_tree_CheckPat_r0 R x0 (.agg [(proj 0 x0), (proj 1 x0), (proj 2 x0), (proj 3 x0), (proj 4 x0), (proj 5 x0), (proj 6 x0)]) [SObj.box [((proj 0 x0), .val), ((proj 1 x0), .val), ((proj 2 x0), .val), ((proj 3 x0), .val), ((proj 4 x0), .val), ((proj 5 x0), .val), ((proj 6 x0), .val)], SObj.box [((.int .i64 0), .val)], .map true [], SObj.box [(.undef, (.map 2))], SObj.box [((proj 0 x0), .val), ((proj 1 x0), .val), ((proj 2 x0), .val), ((proj 3 x0), .val), ((proj 4 x0), .val), ((proj 5 x0), .val), ((proj 6 x0), .val)]]) := evP_of [6] (by kernel_rfl)
theorem eq_tree_CheckPat_r0 (R : Orc) (t0 : DV) (t6 : DV) (sg : List SObj) : P_tree_CheckPat_r0 R t0 t6 sg =
  ob (sgBox sg 4) fun cs => ob (allDat cs) fun cd => ob (flatD 7 6 cd) fun ds => I_tree_CheckPat_r0 R t0 t6 ds (sg.set 4 (.arr 1 [])) :=
  (rangeP2 (t := 7) (f := 82) (i := 4) (q := 8) (it := flatD 7 6) (by kernel_rfl) (by kernel_rfl) (by kernel_rfl) (by kernel_rfl)).trans (by kernel_rfl)
theorem I_tree_CheckPat_r0_nil (R : Orc) (t0 : DV) (t6 : DV) (sg : List SObj) : I_tree_CheckPat_r0 R t0 t6 [] sg = X_tree_CheckPat_r0 R t0 t6 .normal sg := rfl
theorem I_tree_CheckPat_r0_cons (R : Orc) (t0 : DV) (t6 : DV) (x : DV) (ds : List DV) (sg : List SObj) : I_tree_CheckPat_r0 R t0 t6 (x :: ds) sg = B_tree_CheckPat_r0 R t0 t6 (I_tree_CheckPat_r0 R t0 t6 ds) x sg := rfl
theorem eq_B_tree_CheckPat_r0 (R : Orc) (t0 : DV) (t6 : DV) (I : List SObj → Option DV) (x : DV) (sg : List SObj) : B_tree_CheckPat_r0 R t0 t6 I x sg =
  (og (isAggN 7 x) <|
  ob (R.p F_tree_onePat [(.agg [(proj 0 x), (proj 1 x), (proj 2 x), (proj 3 x), (proj 4 x), (proj 5 x), (proj 6 x)])]) fun d1 =>
  ob (dUn .not d1) fun d2 =>
  ogd d2
   (ob (sgBox sg 1) fun c3 =>
   ob (c3[0]?) fun u4 =>
   X_tree_CheckPat_r0 R t0 t6 .ret (sg.set 1 (SObj.box (c3.set 0 ((.int .i64 1), .val)))))
   (ob (dBin .eql (proj 0 x) (.int .i64 2)) fun d5 =>
   ogd d5
    (ob (sgBox sg 3) fun c6 =>
    ob (cellMap c6 0) fun i7 =>
    og (isKey true (proj 3 x) && true) <|
    ob (sgMap sg i7) fun m8 =>
    og (m8.1 == true) <|
    ob (dBin .gtr ((mGet m8.2 (proj 3 x)).getD (.int .i64 0)) (.int .i64 0)) fun d9 =>
    oif d9
     (ob (sgBox sg 1) fun c10 =>
     ob (c10[0]?) fun u11 =>
     X_tree_CheckPat_r0 R t0 t6 .ret (sg.set 1 (SObj.box (c10.set 0 ((.int .i64 1), .val)))))
     (P_tree_CheckPat_6 R t0 t6 I x sg))
    (P_tree_CheckPat_6 R t0 t6 I x sg)
    none)
   none) := evP_of [6] (by kernel_rfl)
theorem eq_X_tree_CheckPat_r0_normal (R : Orc) (t0 : DV) (t6 : DV) (sg : List SObj) : X_tree_CheckPat_r0 R t0 t6 .normal sg =
  (ob (sgBox sg 1) fun c1 =>
  ob (c1[0]?) fun u2 =>
  ret1 (ob (sgBox (sg.set 1 (SObj.box (c1.set 0 ((.int .i64 0), .val)))) 1) fun c => oneCell (sg.set 1 (SObj.box (c1.set 0 ((.int .i64 0), .val)))) c)) := konP_of [6] (by kernel_rfl)
theorem eq_X_tree_CheckPat_r0_ret (R : Orc) (t0 : DV) (t6 : DV) (sg : List SObj) : X_tree_CheckPat_r0 R t0 t6 .ret sg =
  (ret1 (ob (sgBox sg 1) fun c => oneCell sg c)) := konP_of [6] (by kernel_rfl)
theorem eq_tree_CheckPat_6 (R : Orc) (t0 : DV) (t6 : DV) (I : List SObj → Option DV) (b4 : DV) (sg : List SObj) : P_tree_CheckPat_6 R t0 t6 I b4 sg =
  (ob (dBin .eql (proj 0 b4) (.int .i64 2)) fun d1 =>
  oif d1
   (ob (sgBox sg 3) fun c2 =>
   ob (cellMap c2 0) fun i3 =>
   og (isKey true (proj 3 b4) && true) <|
   ob (sgMap sg i3) fun m4 =>
   og (m4.1 == true) <|
   ob (dBin .add ((mGet m4.2 (proj 3 b4)).getD (.int .i64 0)) (.int .i64 1)) fun d5 =>
   og (isKey true (proj 3 b4) && true && true) <|
   ob (sgMap sg i3) fun m6 =>
   og (m6.1 == true) <|
   I (sg.set i3 (.map true (mSet m6.2 (proj 3 b4) d5))))
   (I sg)) := evP_of [6] (by kernel_rfl)
theorem fix_tree_CheckPat (x0 : DV) : (run cfg).p F_tree_CheckPat [x0] = P_tree_CheckPat (run cfg) x0 :=
  (fix_pure (C := cfg) (f := F_tree_CheckPat) (fn := Try.f60) (c := code_tree_CheckPat) (by kernel_rfl) Try.func60 (by kernel_rfl)).trans (by kernel_rfl)
theorem call_tree_CheckPat (x0 : DV) {d : DV} (h : P_tree_CheckPat (run cfg) x0 = some d) : (run cfg).p F_tree_CheckPat [x0] = some d := (fix_tree_CheckPat x0).trans h

end Go.Su

/-
  Equations of the program's functions: by program.
-/
namespace Go.Su
open Go.Proofs
set_option linter.unusedVariables false

noncomputable def code_tree_scope_look : Code := Try.f61.body.getD .skip
noncomputable def P_tree_scope_look (R : Orc) (x0 : Nat) (x1 : DV) (sg : List SObj) : Option (List DV × List SObj) := evP cfg R fl_tree_scope_look (retR cfg.P Try.f61 sig_tree_scope_look) [] code_tree_scope_look (initSt Try.f61 [(.undef, (.ptr x0 0)), (x1, .val)] sg)
noncomputable def P_tree_scope_look_21h (R : Orc) (t0i : Nat) (t3i : Nat) (t100 : DV) (t101 : DV) (t102 : DV) (sg : List SObj) : Option (List DV × List SObj) := headP cfg R fl_tree_scope_look (retR cfg.P Try.f61 sig_tree_scope_look) [true, true, false, true, true, true, true, true, true, true, true, true, false, true, true, false] code_tree_scope_look ⟨spread .undef 128 0 [(100, t100), (101, t101), (102, t102)], spread .val 128 0 [(0, (.ptr t0i 0)), (3, (.ptr t3i 0))], spread none 128 0 [], sg⟩
noncomputable def P_tree_scope_look_3h (R : Orc) (t0i : Nat) (t13 : DV) (t14 : DV) (t15 : DV) (sg : List SObj) : Option (List DV × List SObj) := headP cfg R fl_tree_scope_look (retR cfg.P Try.f61 sig_tree_scope_look) [true, true, false, true, true, true, true, true, true, true, true, true, true, true, false] code_tree_scope_look ⟨spread .undef 128 0 [(13, t13), (14, t14), (15, t15)], spread .val 128 0 [(0, (.ptr t0i 0))], spread none 128 0 [], sg⟩
noncomputable def P_tree_scope_look_r0 (R : Orc) (t0i : Nat) (t3i : Nat) (t4 : DV) (t5i : Nat) (t6i : Nat) (t100 : DV) (t101 : DV) (t102 : DV) (t104 : DV) (t105 : DV) (t106 : DV) (t107 : DV) (t108c0 : Nat) (sg : List SObj) : Option (List DV × List SObj) := evP cfg R fl_tree_scope_look (retR cfg.P Try.f61 sig_tree_scope_look) [true, true, false, true, true, true, true, true, true, true, true, true, false, true, true, false, false, true, true, false, false, true, true, false, true, false] code_tree_scope_look ⟨spread .undef 128 0 [(4, t4), (100, t100), (101, t101), (102, t102), (103, (.bool true)), (104, t104), (105, t105), (106, t106), (107, t107)], spread .val 128 0 [(0, (.ptr t0i 0)), (3, (.ptr t3i 0)), (5, (.ptr t5i 0)), (6, (.ptr t6i 0)), (105, (.rop true 7 0)), (108, (.fn 82 [(t108c0, 0)]))], spread none 128 0 [], sg⟩
noncomputable def rcode_tree_scope_look_r0 : Code := match (sub [true, true, false, true, true, true, true, true, true, true, true, true, false, true, true, false, false, true, true, false, false, true, true, false, true, false] code_tree_scope_look []).1 with
  | .rangeFunc _ _ a b => .seq a b
  | c => c
noncomputable def X_tree_scope_look_r0 (R : Orc) (t0i : Nat) (t3i : Nat) (t4 : DV) (t5i : Nat) (t6i : Nat) (t100 : DV) (t101 : DV) (t102 : DV) (t104 : DV) (t105 : DV) (t106 : DV) (t107 : DV) (t108c0 : Nat) (o : Out) (sg : List SObj) : Option (List DV × List SObj) := konP cfg R fl_tree_scope_look (retR cfg.P Try.f61 sig_tree_scope_look) [true, true, false, true, true, true, true, true, true, true, true, true, false, true, true, false, false, true, true, false, false, true, true, false, true, false] code_tree_scope_look o (outerSt ⟨spread .undef 128 0 [(4, t4), (100, t100), (101, t101), (102, t102), (103, (.bool true)), (104, t104), (105, t105), (106, t106), (107, t107)], spread .val 128 0 [(0, (.ptr t0i 0)), (3, (.ptr t3i 0)), (5, (.ptr t5i 0)), (6, (.ptr t6i 0)), (105, (.rop true 7 0)), (108, (.fn 82 [(t108c0, 0)]))], spread none 128 0 [], []⟩ sg)
noncomputable def B_tree_scope_look_r0 (R : Orc) (t0i : Nat) (t3i : Nat) (t4 : DV) (t5i : Nat) (t6i : Nat) (t100 : DV) (t101 : DV) (t102 : DV) (t104 : DV) (t105 : DV) (t106 : DV) (t107 : DV) (t108c0 : Nat) (I : List SObj → Option (List DV × List SObj)) (x : DV) (sg : List SObj) : Option (List DV × List SObj) := evP cfg R fl_tree_scope_look (kr I (X_tree_scope_look_r0 R t0i t3i t4 t5i t6i t100 t101 t102 t104 t105 t106 t107 t108c0)) [] rcode_tree_scope_look_r0 ⟨spread .undef 128 0 [(109, x)], spread .val 128 0 [(6, (.ptr t6i 0))], spread none 128 0 [], sg⟩
noncomputable def I_tree_scope_look_r0 (R : Orc) (t0i : Nat) (t3i : Nat) (t4 : DV) (t5i : Nat) (t6i : Nat) (t100 : DV) (t101 : DV) (t102 : DV) (t104 : DV) (t105 : DV) (t106 : DV) (t107 : DV) (t108c0 : Nat) : List DV → List SObj → Option (List DV × List SObj) := foldIt (fun x I sg => B_tree_scope_look_r0 R t0i t3i t4 t5i t6i t100 t101 t102 t104 t105 t106 t107 t108c0 I x sg) (X_tree_scope_look_r0 R t0i t3i t4 t5i t6i t100 t101 t102 t104 t105 t106 t107 t108c0 .normal)
set_option maxRecDepth 100000 in
theorem eq_tree_scope_look (R : Orc) (x0 : Nat) (x1 : DV) (sg : List SObj) : P_tree_scope_look R x0 x1 sg =
  (og (isAggN 16 x1) <|
  ob (sgBox (sg ++ [SObj.box [((proj 0 x1), .val), ((proj 1 x1), .val), ((proj 2 x1), .val), ((proj 3 x1), .val), ((proj 4 x1), .val), ((proj 5 x1), .val), ((proj 6 x1), .val), ((proj 7 x1), .val), ((proj 8 x1), .val), ((proj 9 x1), .val), ((proj 10 x1), .val), ((proj 11 x1), .val), ((proj 12 x1), .val), ((proj 13 x1), .val), ((proj 14 x1), .val), ((proj 15 x1), .val)]]) sg.length) fun c1 =>
  ob (cellDat c1 0) fun d2 =>
  ob (dBin .eql d2 (.int .i64 1)) fun d3 =>
  oif d3
   (ob (sgBox (sg ++ [SObj.box [((proj 0 x1), .val), ((proj 1 x1), .val), ((proj 2 x1), .val), ((proj 3 x1), .val), ((proj 4 x1), .val), ((proj 5 x1), .val), ((proj 6 x1), .val), ((proj 7 x1), .val), ((proj 8 x1), .val), ((proj 9 x1), .val), ((proj 10 x1), .val), ((proj 11 x1), .val), ((proj 12 x1), .val), ((proj 13 x1), .val), ((proj 14 x1), .val), ((proj 15 x1), .val)]]) x0) fun c4 =>
   ob (cellMap c4 0) fun i5 =>
   ob (sgBox (sg ++ [SObj.box [((proj 0 x1), .val), ((proj 1 x1), .val), ((proj 2 x1), .val), ((proj 3 x1), .val), ((proj 4 x1), .val), ((proj 5 x1), .val), ((proj 6 x1), .val), ((proj 7 x1), .val), ((proj 8 x1), .val), ((proj 9 x1), .val), ((proj 10 x1), .val), ((proj 11 x1), .val), ((proj 12 x1), .val), ((proj 13 x1), .val), ((proj 14 x1), .val), ((proj 15 x1), .val)]]) sg.length) fun c6 =>
   ob (cellDat c6 3) fun d7 =>
   og (isKey true d7 && true) <|
   ob (sgMap (sg ++ [SObj.box [((proj 0 x1), .val), ((proj 1 x1), .val), ((proj 2 x1), .val), ((proj 3 x1), .val), ((proj 4 x1), .val), ((proj 5 x1), .val), ((proj 6 x1), .val), ((proj 7 x1), .val), ((proj 8 x1), .val), ((proj 9 x1), .val), ((proj 10 x1), .val), ((proj 11 x1), .val), ((proj 12 x1), .val), ((proj 13 x1), .val), ((proj 14 x1), .val), ((proj 15 x1), .val)]]) i5) fun m8 =>
   og (m8.1 == true) <|
   ob (dBin .eql ((mGet m8.2 d7).getD (.int .i64 0)) (.int .i64 0)) fun d9 =>
   oif d9
    (ob (sgBox (sg ++ [SObj.box [((proj 0 x1), .val), ((proj 1 x1), .val), ((proj 2 x1), .val), ((proj 3 x1), .val), ((proj 4 x1), .val), ((proj 5 x1), .val), ((proj 6 x1), .val), ((proj 7 x1), .val), ((proj 8 x1), .val), ((proj 9 x1), .val), ((proj 10 x1), .val), ((proj 11 x1), .val), ((proj 12 x1), .val), ((proj 13 x1), .val), ((proj 14 x1), .val), ((proj 15 x1), .val)]]) x0) fun c10 =>
    ob (cellMap c10 1) fun i11 =>
    ob (sgBox (sg ++ [SObj.box [((proj 0 x1), .val), ((proj 1 x1), .val), ((proj 2 x1), .val), ((proj 3 x1), .val), ((proj 4 x1), .val), ((proj 5 x1), .val), ((proj 6 x1), .val), ((proj 7 x1), .val), ((proj 8 x1), .val), ((proj 9 x1), .val), ((proj 10 x1), .val), ((proj 11 x1), .val), ((proj 12 x1), .val), ((proj 13 x1), .val), ((proj 14 x1), .val), ((proj 15 x1), .val)]]) sg.length) fun c12 =>
    ob (cellDat c12 3) fun d13 =>
    og (isKey true d13 && true) <|
    ob (sgMap (sg ++ [SObj.box [((proj 0 x1), .val), ((proj 1 x1), .val), ((proj 2 x1), .val), ((proj 3 x1), .val), ((proj 4 x1), .val), ((proj 5 x1), .val), ((proj 6 x1), .val), ((proj 7 x1), .val), ((proj 8 x1), .val), ((proj 9 x1), .val), ((proj 10 x1), .val), ((proj 11 x1), .val), ((proj 12 x1), .val), ((proj 13 x1), .val), ((proj 14 x1), .val), ((proj 15 x1), .val)]]) i11) fun m14 =>
    og (m14.1 == true) <|
    ob (dBin .add ((mGet m14.2 d13).getD (.int .i64 0)) (.int .i64 1)) fun d15 =>
    og (isKey true d13 && true && true) <|
    ob (sgMap (sg ++ [SObj.box [((proj 0 x1), .val), ((proj 1 x1), .val), ((proj 2 x1), .val), ((proj 3 x1), .val), ((proj 4 x1), .val), ((proj 5 x1), .val), ((proj 6 x1), .val), ((proj 7 x1), .val), ((proj 8 x1), .val), ((proj 9 x1), .val), ((proj 10 x1), .val), ((proj 11 x1), .val), ((proj 12 x1), .val), ((proj 13 x1), .val), ((proj 14 x1), .val), ((proj 15 x1), .val)]]) i11) fun m16 =>
    og (m16.1 == true) <|
    some ([], ((sg ++ [SObj.box [((proj 0 x1), .val), ((proj 1 x1), .val), ((proj 2 x1), .val), ((proj 3 x1), .val), ((proj 4 x1), .val), ((proj 5 x1), .val), ((proj 6 x1), .val), ((proj 7 x1), .val), ((proj 8 x1), .val), ((proj 9 x1), .val), ((proj 10 x1), .val), ((proj 11 x1), .val), ((proj 12 x1), .val), ((proj 13 x1), .val), ((proj 14 x1), .val), ((proj 15 x1), .val)]]).set i11 (.map true (mSet m16.2 d13 d15)))))
    (some ([], (sg ++ [SObj.box [((proj 0 x1), .val), ((proj 1 x1), .val), ((proj 2 x1), .val), ((proj 3 x1), .val), ((proj 4 x1), .val), ((proj 5 x1), .val), ((proj 6 x1), .val), ((proj 7 x1), .val), ((proj 8 x1), .val), ((proj 9 x1), .val), ((proj 10 x1), .val), ((proj 11 x1), .val), ((proj 12 x1), .val), ((proj 13 x1), .val), ((proj 14 x1), .val), ((proj 15 x1), .val)]]))))
   (ob (dBin .eql d2 (.int .i64 9)) fun d17 =>
   oif d17
    (ob (sgBox (sg ++ [SObj.box [((proj 0 x1), .val), ((proj 1 x1), .val), ((proj 2 x1), .val), ((proj 3 x1), .val), ((proj 4 x1), .val), ((proj 5 x1), .val), ((proj 6 x1), .val), ((proj 7 x1), .val), ((proj 8 x1), .val), ((proj 9 x1), .val), ((proj 10 x1), .val), ((proj 11 x1), .val), ((proj 12 x1), .val), ((proj 13 x1), .val), ((proj 14 x1), .val), ((proj 15 x1), .val)]]) sg.length) fun c18 =>
    ob (cellDat c18 15) fun d19 =>
    ob (dIdx 16 d19 (.int .i64 0)) fun d20 =>
    ob (sgBox (sg ++ [SObj.box [((proj 0 x1), .val), ((proj 1 x1), .val), ((proj 2 x1), .val), ((proj 3 x1), .val), ((proj 4 x1), .val), ((proj 5 x1), .val), ((proj 6 x1), .val), ((proj 7 x1), .val), ((proj 8 x1), .val), ((proj 9 x1), .val), ((proj 10 x1), .val), ((proj 11 x1), .val), ((proj 12 x1), .val), ((proj 13 x1), .val), ((proj 14 x1), .val), ((proj 15 x1), .val)]]) sg.length) fun c21 =>
    ob (cellDat c21 3) fun d22 =>
    og (isCell d22) <|
    ob (R.r F_tree_scope_with [(.undef, (.ptr x0 0)), ((.agg [(proj 0 d20), (proj 1 d20), (proj 2 d20), (proj 3 d20), (proj 4 d20), (proj 5 d20), (proj 6 d20), (proj 7 d20), (proj 8 d20), (proj 9 d20), (proj 10 d20), (proj 11 d20), (proj 12 d20), (proj 13 d20), (proj 14 d20), (proj 15 d20)]), .val), ((.list 1 [d22]), .val)] (sg ++ [SObj.box [((proj 0 x1), .val), ((proj 1 x1), .val), ((proj 2 x1), .val), ((proj 3 x1), .val), ((proj 4 x1), .val), ((proj 5 x1), .val), ((proj 6 x1), .val), ((proj 7 x1), .val), ((proj 8 x1), .val), ((proj 9 x1), .val), ((proj 10 x1), .val), ((proj 11 x1), .val), ((proj 12 x1), .val), ((proj 13 x1), .val), ((proj 14 x1), .val), ((proj 15 x1), .val)]])) fun q23 =>
    some ([], q23.2))
    (ob (dBin .eql d2 (.int .i64 11)) fun d24 =>
    oif d24
     (ob (sgBox (sg ++ [SObj.box [((proj 0 x1), .val), ((proj 1 x1), .val), ((proj 2 x1), .val), ((proj 3 x1), .val), ((proj 4 x1), .val), ((proj 5 x1), .val), ((proj 6 x1), .val), ((proj 7 x1), .val), ((proj 8 x1), .val), ((proj 9 x1), .val), ((proj 10 x1), .val), ((proj 11 x1), .val), ((proj 12 x1), .val), ((proj 13 x1), .val), ((proj 14 x1), .val), ((proj 15 x1), .val)]]) sg.length) fun c25 =>
     ob (cellDat c25 15) fun d26 =>
     ob (dIdx 16 d26 (.int .i64 0)) fun d27 =>
     ob (R.r F_tree_scope_with [(.undef, (.ptr x0 0)), ((.agg [(proj 0 d27), (proj 1 d27), (proj 2 d27), (proj 3 d27), (proj 4 d27), (proj 5 d27), (proj 6 d27), (proj 7 d27), (proj 8 d27), (proj 9 d27), (proj 10 d27), (proj 11 d27), (proj 12 d27), (proj 13 d27), (proj 14 d27), (proj 15 d27)]), .val), ((.list 1 []), .val)] (sg ++ [SObj.box [((proj 0 x1), .val), ((proj 1 x1), .val), ((proj 2 x1), .val), ((proj 3 x1), .val), ((proj 4 x1), .val), ((proj 5 x1), .val), ((proj 6 x1), .val), ((proj 7 x1), .val), ((proj 8 x1), .val), ((proj 9 x1), .val), ((proj 10 x1), .val), ((proj 11 x1), .val), ((proj 12 x1), .val), ((proj 13 x1), .val), ((proj 14 x1), .val), ((proj 15 x1), .val)]])) fun q28 =>
     ob (sgBox q28.2 sg.length) fun c29 =>
     ob (cellDat c29 15) fun d30 =>
     ob (dIdx 16 d30 (.int .i64 1)) fun d31 =>
     ob (sgBox q28.2 sg.length) fun c32 =>
     ob (cellDat c32 3) fun d33 =>
     og (isCell d33) <|
     ob (R.r F_tree_scope_with [(.undef, (.ptr x0 0)), ((.agg [(proj 0 d31), (proj 1 d31), (proj 2 d31), (proj 3 d31), (proj 4 d31), (proj 5 d31), (proj 6 d31), (proj 7 d31), (proj 8 d31), (proj 9 d31), (proj 10 d31), (proj 11 d31), (proj 12 d31), (proj 13 d31), (proj 14 d31), (proj 15 d31)]), .val), ((.list 1 [d33]), .val)] q28.2) fun q34 =>
     some ([], q34.2))
     (ob (dBin .eql d2 (.int .i64 12)) fun d35 =>
     oif d35
      (ob (sgBox (sg ++ [SObj.box [((proj 0 x1), .val), ((proj 1 x1), .val), ((proj 2 x1), .val), ((proj 3 x1), .val), ((proj 4 x1), .val), ((proj 5 x1), .val), ((proj 6 x1), .val), ((proj 7 x1), .val), ((proj 8 x1), .val), ((proj 9 x1), .val), ((proj 10 x1), .val), ((proj 11 x1), .val), ((proj 12 x1), .val), ((proj 13 x1), .val), ((proj 14 x1), .val), ((proj 15 x1), .val)]]) sg.length) fun c36 =>
      ob (cellDat c36 15) fun d37 =>
      ob (dIdx 16 d37 (.int .i64 0)) fun d38 =>
      ob (sgBox (sg ++ [SObj.box [((proj 0 x1), .val), ((proj 1 x1), .val), ((proj 2 x1), .val), ((proj 3 x1), .val), ((proj 4 x1), .val), ((proj 5 x1), .val), ((proj 6 x1), .val), ((proj 7 x1), .val), ((proj 8 x1), .val), ((proj 9 x1), .val), ((proj 10 x1), .val), ((proj 11 x1), .val), ((proj 12 x1), .val), ((proj 13 x1), .val), ((proj 14 x1), .val), ((proj 15 x1), .val)]]) sg.length) fun c39 =>
      ob (cellDat c39 3) fun d40 =>
      ob (sgBox (sg ++ [SObj.box [((proj 0 x1), .val), ((proj 1 x1), .val), ((proj 2 x1), .val), ((proj 3 x1), .val), ((proj 4 x1), .val), ((proj 5 x1), .val), ((proj 6 x1), .val), ((proj 7 x1), .val), ((proj 8 x1), .val), ((proj 9 x1), .val), ((proj 10 x1), .val), ((proj 11 x1), .val), ((proj 12 x1), .val), ((proj 13 x1), .val), ((proj 14 x1), .val), ((proj 15 x1), .val)]]) sg.length) fun c41 =>
      ob (cellDat c41 4) fun d42 =>
      og (isCell d40) <|
      og (isCell d42) <|
      ob (R.r F_tree_scope_with [(.undef, (.ptr x0 0)), ((.agg [(proj 0 d38), (proj 1 d38), (proj 2 d38), (proj 3 d38), (proj 4 d38), (proj 5 d38), (proj 6 d38), (proj 7 d38), (proj 8 d38), (proj 9 d38), (proj 10 d38), (proj 11 d38), (proj 12 d38), (proj 13 d38), (proj 14 d38), (proj 15 d38)]), .val), ((.list 1 [d40, d42]), .val)] (sg ++ [SObj.box [((proj 0 x1), .val), ((proj 1 x1), .val), ((proj 2 x1), .val), ((proj 3 x1), .val), ((proj 4 x1), .val), ((proj 5 x1), .val), ((proj 6 x1), .val), ((proj 7 x1), .val), ((proj 8 x1), .val), ((proj 9 x1), .val), ((proj 10 x1), .val), ((proj 11 x1), .val), ((proj 12 x1), .val), ((proj 13 x1), .val), ((proj 14 x1), .val), ((proj 15 x1), .val)]])) fun q43 =>
      ob (sgBox q43.2 sg.length) fun c44 =>
      ob (cellDat c44 15) fun d45 =>
      ob (dIdx 16 d45 (.int .i64 1)) fun d46 =>
      ob (sgBox q43.2 sg.length) fun c47 =>
      ob (cellDat c47 3) fun d48 =>
      og (isCell d48) <|
      ob (R.r F_tree_scope_with [(.undef, (.ptr x0 0)), ((.agg [(proj 0 d46), (proj 1 d46), (proj 2 d46), (proj 3 d46), (proj 4 d46), (proj 5 d46), (proj 6 d46), (proj 7 d46), (proj 8 d46), (proj 9 d46), (proj 10 d46), (proj 11 d46), (proj 12 d46), (proj 13 d46), (proj 14 d46), (proj 15 d46)]), .val), ((.list 1 [d48]), .val)] q43.2) fun q49 =>
      some ([], q49.2))
      (ob (dBin .eql d2 (.int .i64 14)) fun d50 =>
      oif d50
       (ob (sgBox (sg ++ [SObj.box [((proj 0 x1), .val), ((proj 1 x1), .val), ((proj 2 x1), .val), ((proj 3 x1), .val), ((proj 4 x1), .val), ((proj 5 x1), .val), ((proj 6 x1), .val), ((proj 7 x1), .val), ((proj 8 x1), .val), ((proj 9 x1), .val), ((proj 10 x1), .val), ((proj 11 x1), .val), ((proj 12 x1), .val), ((proj 13 x1), .val), ((proj 14 x1), .val), ((proj 15 x1), .val)]]) sg.length) fun c51 =>
       ob (cellDat c51 15) fun d52 =>
       ob (dIdx 16 d52 (.int .i64 0)) fun d53 =>
       ob (R.r F_tree_scope_with [(.undef, (.ptr x0 0)), ((.agg [(proj 0 d53), (proj 1 d53), (proj 2 d53), (proj 3 d53), (proj 4 d53), (proj 5 d53), (proj 6 d53), (proj 7 d53), (proj 8 d53), (proj 9 d53), (proj 10 d53), (proj 11 d53), (proj 12 d53), (proj 13 d53), (proj 14 d53), (proj 15 d53)]), .val), ((.list 1 []), .val)] (sg ++ [SObj.box [((proj 0 x1), .val), ((proj 1 x1), .val), ((proj 2 x1), .val), ((proj 3 x1), .val), ((proj 4 x1), .val), ((proj 5 x1), .val), ((proj 6 x1), .val), ((proj 7 x1), .val), ((proj 8 x1), .val), ((proj 9 x1), .val), ((proj 10 x1), .val), ((proj 11 x1), .val), ((proj 12 x1), .val), ((proj 13 x1), .val), ((proj 14 x1), .val), ((proj 15 x1), .val)]])) fun q54 =>
       ob (sgBox q54.2 sg.length) fun c55 =>
       ob (cellDat c55 14) fun d56 =>
       ob (dLen d56) fun d57 =>
       P_tree_scope_look_21h R x0 (sg.length) d56 d57 (.int .i64 0) q54.2)
       (ob (sgBox (sg ++ [SObj.box [((proj 0 x1), .val), ((proj 1 x1), .val), ((proj 2 x1), .val), ((proj 3 x1), .val), ((proj 4 x1), .val), ((proj 5 x1), .val), ((proj 6 x1), .val), ((proj 7 x1), .val), ((proj 8 x1), .val), ((proj 9 x1), .val), ((proj 10 x1), .val), ((proj 11 x1), .val), ((proj 12 x1), .val), ((proj 13 x1), .val), ((proj 14 x1), .val), ((proj 15 x1), .val)]]) sg.length) fun c58 =>
       ob (cellDat c58 15) fun d59 =>
       ob (dLen d59) fun d60 =>
       P_tree_scope_look_3h R x0 d59 d60 (.int .i64 0) (sg ++ [SObj.box [((proj 0 x1), .val), ((proj 1 x1), .val), ((proj 2 x1), .val), ((proj 3 x1), .val), ((proj 4 x1), .val), ((proj 5 x1), .val), ((proj 6 x1), .val), ((proj 7 x1), .val), ((proj 8 x1), .val), ((proj 9 x1), .val), ((proj 10 x1), .val), ((proj 11 x1), .val), ((proj 12 x1), .val), ((proj 13 x1), .val), ((proj 14 x1), .val), ((proj 15 x1), .val)]]))))))) := evP_of [] (by kernel_rfl)
theorem eq_tree_scope_look_21h (R : Orc) (t0i : Nat) (t3i : Nat) (t100 : DV) (t101 : DV) (t102 : DV) (sg : List SObj) : P_tree_scope_look_21h R t0i t3i t100 t101 t102 sg =
  (ob (dBin .lss t102 t101) fun d1 =>
  oif d1
   (ob (dIdx 7 t100 t102) fun d2 =>
   ob (sgBox (sg ++ [SObj.box [((.int .i64 0), .val), ((.int .i64 0), .val), ((.int .i64 0), .val), ((.str ⟨#[]⟩), .val), ((.int .i64 0), .val), ((.str ⟨#[]⟩), .val), ((.list 7 []), .full)]]) sg.length) fun c3 =>
   if 0 + 7 ≤ c3.length then
    (ob (sgBox (((sg ++ [SObj.box [((.int .i64 0), .val), ((.int .i64 0), .val), ((.int .i64 0), .val), ((.str ⟨#[]⟩), .val), ((.int .i64 0), .val), ((.str ⟨#[]⟩), .val), ((.list 7 []), .full)]]).set sg.length (SObj.box (putAt c3 0 [((proj 0 d2), .val), ((proj 1 d2), .val), ((proj 2 d2), .val), ((proj 3 d2), .val), ((proj 4 d2), .val), ((proj 5 d2), .val), ((proj 6 d2), .val)]))) ++ [SObj.box [((.list 1 []), .full)]]) sg.length) fun c4 =>
    ob (segDat 0 7 c4) fun e5 =>
    ob (aggD (.agg e5)) fun c6 =>
    og (true && c6.length == 7) <|
    P_tree_scope_look_r0 R t0i t3i t102 (sg.length) ((((sg ++ [SObj.box [((.int .i64 0), .val), ((.int .i64 0), .val), ((.int .i64 0), .val), ((.str ⟨#[]⟩), .val), ((.int .i64 0), .val), ((.str ⟨#[]⟩), .val), ((.list 7 []), .full)]]).set sg.length (SObj.box (putAt c3 0 [((proj 0 d2), .val), ((proj 1 d2), .val), ((proj 2 d2), .val), ((proj 3 d2), .val), ((proj 4 d2), .val), ((proj 5 d2), .val), ((proj 6 d2), .val)])))).length) t100 t101 t102 t102 d2 (.agg [(proj 0 d2), (proj 1 d2), (proj 2 d2), (proj 3 d2), (proj 4 d2), (proj 5 d2), (proj 6 d2)]) (.agg e5) (((((sg ++ [SObj.box [((.int .i64 0), .val), ((.int .i64 0), .val), ((.int .i64 0), .val), ((.str ⟨#[]⟩), .val), ((.int .i64 0), .val), ((.str ⟨#[]⟩), .val), ((.list 7 []), .full)]]).set sg.length (SObj.box (putAt c3 0 [((proj 0 d2), .val), ((proj 1 d2), .val), ((proj 2 d2), .val), ((proj 3 d2), .val), ((proj 4 d2), .val), ((proj 5 d2), .val), ((proj 6 d2), .val)]))) ++ [SObj.box [((.list 1 []), .full)]])).length) ((((sg ++ [SObj.box [((.int .i64 0), .val), ((.int .i64 0), .val), ((.int .i64 0), .val), ((.str ⟨#[]⟩), .val), ((.int .i64 0), .val), ((.str ⟨#[]⟩), .val), ((.list 7 []), .full)]]).set sg.length (SObj.box (putAt c3 0 [((proj 0 d2), .val), ((proj 1 d2), .val), ((proj 2 d2), .val), ((proj 3 d2), .val), ((proj 4 d2), .val), ((proj 5 d2), .val), ((proj 6 d2), .val)]))) ++ [SObj.box [((.list 1 []), .full)]]) ++ [SObj.box (c6.map fun d => (d, .val))]))
   else none)
   (some ([], sg))) := headP_of [] (by kernel_rfl)
theorem eq_tree_scope_look_3h (R : Orc) (t0i : Nat) (t13 : DV) (t14 : DV) (t15 : DV) (sg : List SObj) : P_tree_scope_look_3h R t0i t13 t14 t15 sg =
  (ob (dBin .lss t15 t14) fun d1 =>
  oif d1
   (ob (dIdx 16 t13 t15) fun d2 =>
   ob (sgBox (sg ++ [SObj.box [((.int .i64 0), .val), ((.int .i64 0), .val), ((.int .i64 0), .val), ((.str ⟨#[]⟩), .val), ((.str ⟨#[]⟩), .val), ((.int .i64 0), .val), ((.str ⟨#[]⟩), .val), ((.int .i64 0), .val), ((.int .i64 0), .val), ((.int .i64 0), .val), ((.list 3 []), .full), ((.int .i64 0), .val), ((.int .i64 0), .val), ((.list 3 []), .full), ((.list 7 []), .full), ((.list 16 []), .full)]]) sg.length) fun c3 =>
   if 0 + 16 ≤ c3.length then
    (ob (sgBox ((sg ++ [SObj.box [((.int .i64 0), .val), ((.int .i64 0), .val), ((.int .i64 0), .val), ((.str ⟨#[]⟩), .val), ((.str ⟨#[]⟩), .val), ((.int .i64 0), .val), ((.str ⟨#[]⟩), .val), ((.int .i64 0), .val), ((.int .i64 0), .val), ((.int .i64 0), .val), ((.list 3 []), .full), ((.int .i64 0), .val), ((.int .i64 0), .val), ((.list 3 []), .full), ((.list 7 []), .full), ((.list 16 []), .full)]]).set sg.length (SObj.box (putAt c3 0 [((proj 0 d2), .val), ((proj 1 d2), .val), ((proj 2 d2), .val), ((proj 3 d2), .val), ((proj 4 d2), .val), ((proj 5 d2), .val), ((proj 6 d2), .val), ((proj 7 d2), .val), ((proj 8 d2), .val), ((proj 9 d2), .val), ((proj 10 d2), .val), ((proj 11 d2), .val), ((proj 12 d2), .val), ((proj 13 d2), .val), ((proj 14 d2), .val), ((proj 15 d2), .val)]))) sg.length) fun c4 =>
    ob (segDat 0 16 c4) fun e5 =>
    ob (R.r F_tree_scope_with [(.undef, (.ptr t0i 0)), ((.agg e5), .val), ((.list 1 []), .val)] ((sg ++ [SObj.box [((.int .i64 0), .val), ((.int .i64 0), .val), ((.int .i64 0), .val), ((.str ⟨#[]⟩), .val), ((.str ⟨#[]⟩), .val), ((.int .i64 0), .val), ((.str ⟨#[]⟩), .val), ((.int .i64 0), .val), ((.int .i64 0), .val), ((.int .i64 0), .val), ((.list 3 []), .full), ((.int .i64 0), .val), ((.int .i64 0), .val), ((.list 3 []), .full), ((.list 7 []), .full), ((.list 16 []), .full)]]).set sg.length (SObj.box (putAt c3 0 [((proj 0 d2), .val), ((proj 1 d2), .val), ((proj 2 d2), .val), ((proj 3 d2), .val), ((proj 4 d2), .val), ((proj 5 d2), .val), ((proj 6 d2), .val), ((proj 7 d2), .val), ((proj 8 d2), .val), ((proj 9 d2), .val), ((proj 10 d2), .val), ((proj 11 d2), .val), ((proj 12 d2), .val), ((proj 13 d2), .val), ((proj 14 d2), .val), ((proj 15 d2), .val)])))) fun q6 =>
    ob (dBin .add t15 (.int .i64 1)) fun d7 =>
    P_tree_scope_look_3h R t0i t13 t14 d7 q6.2)
   else none)
   (some ([], sg))) := headP_of [] (by kernel_rfl)
theorem eq_tree_scope_look_r0 (R : Orc) (t0i : Nat) (t3i : Nat) (t4 : DV) (t5i : Nat) (t6i : Nat) (t100 : DV) (t101 : DV) (t102 : DV) (t104 : DV) (t105 : DV) (t106 : DV) (t107 : DV) (t108c0 : Nat) (sg : List SObj) : P_tree_scope_look_r0 R t0i t3i t4 t5i t6i t100 t101 t102 t104 t105 t106 t107 t108c0 sg =
  ob (sgBox sg t108c0) fun cs => ob (allDat cs) fun cd => ob (flatD 7 6 cd) fun ds => I_tree_scope_look_r0 R t0i t3i t4 t5i t6i t100 t101 t102 t104 t105 t106 t107 t108c0 ds (sg.set t108c0 (.arr 1 [])) :=
  (rangeP2 (t := 108) (f := 82) (i := t108c0) (q := 109) (it := flatD 7 6) (by kernel_rfl) (by kernel_rfl) (by kernel_rfl) (by kernel_rfl)).trans (by kernel_rfl)
theorem I_tree_scope_look_r0_nil (R : Orc) (t0i : Nat) (t3i : Nat) (t4 : DV) (t5i : Nat) (t6i : Nat) (t100 : DV) (t101 : DV) (t102 : DV) (t104 : DV) (t105 : DV) (t106 : DV) (t107 : DV) (t108c0 : Nat) (sg : List SObj) : I_tree_scope_look_r0 R t0i t3i t4 t5i t6i t100 t101 t102 t104 t105 t106 t107 t108c0 [] sg = X_tree_scope_look_r0 R t0i t3i t4 t5i t6i t100 t101 t102 t104 t105 t106 t107 t108c0 .normal sg := rfl
theorem I_tree_scope_look_r0_cons (R : Orc) (t0i : Nat) (t3i : Nat) (t4 : DV) (t5i : Nat) (t6i : Nat) (t100 : DV) (t101 : DV) (t102 : DV) (t104 : DV) (t105 : DV) (t106 : DV) (t107 : DV) (t108c0 : Nat) (x : DV) (ds : List DV) (sg : List SObj) : I_tree_scope_look_r0 R t0i t3i t4 t5i t6i t100 t101 t102 t104 t105 t106 t107 t108c0 (x :: ds) sg = B_tree_scope_look_r0 R t0i t3i t4 t5i t6i t100 t101 t102 t104 t105 t106 t107 t108c0 (I_tree_scope_look_r0 R t0i t3i t4 t5i t6i t100 t101 t102 t104 t105 t106 t107 t108c0 ds) x sg := rfl
theorem eq_B_tree_scope_look_r0 (R : Orc) (t0i : Nat) (t3i : Nat) (t4 : DV) (t5i : Nat) (t6i : Nat) (t100 : DV) (t101 : DV) (t102 : DV) (t104 : DV) (t105 : DV) (t106 : DV) (t107 : DV) (t108c0 : Nat) (I : List SObj → Option (List DV × List SObj)) (x : DV) (sg : List SObj) : B_tree_scope_look_r0 R t0i t3i t4 t5i t6i t100 t101 t102 t104 t105 t106 t107 t108c0 I x sg =
  (og (isAggN 7 x) <|
  ob (dBin .eql (proj 0 x) (.int .i64 2)) fun d1 =>
  oif d1
   (ob (sgBox sg t6i) fun c2 =>
   ob (cellOwn c2 0) fun d3 =>
   og (isCell (proj 3 x)) <|
   ob (dApp 1 d3 (.list 1 [(proj 3 x)])) fun d4 =>
   ob (sgBox (sg.set t6i (SObj.box (c2.set 0 (d3, .val)))) t6i) fun c5 =>
   ob (c5[0]?) fun u6 =>
   I ((sg.set t6i (SObj.box (c2.set 0 (d3, .val)))).set t6i (SObj.box (c5.set 0 (d4, .own)))))
   (I sg)) := evP_of [] (by kernel_rfl)
theorem eq_X_tree_scope_look_r0_normal (R : Orc) (t0i : Nat) (t3i : Nat) (t4 : DV) (t5i : Nat) (t6i : Nat) (t100 : DV) (t101 : DV) (t102 : DV) (t104 : DV) (t105 : DV) (t106 : DV) (t107 : DV) (t108c0 : Nat) (sg : List SObj) : X_tree_scope_look_r0 R t0i t3i t4 t5i t6i t100 t101 t102 t104 t105 t106 t107 t108c0 .normal sg =
  (ob (sgBox sg t3i) fun c1 =>
  ob (cellDat c1 15) fun d2 =>
  ob (dBin .add t4 (.int .i64 1)) fun d3 =>
  ob (dIdx 16 d2 d3) fun d4 =>
  ob (sgBox sg t6i) fun c5 =>
  ob (cellDat c5 0) fun d6 =>
  ob (R.r F_tree_scope_with [(.undef, (.ptr t0i 0)), ((.agg [(proj 0 d4), (proj 1 d4), (proj 2 d4), (proj 3 d4), (proj 4 d4), (proj 5 d4), (proj 6 d4), (proj 7 d4), (proj 8 d4), (proj 9 d4), (proj 10 d4), (proj 11 d4), (proj 12 d4), (proj 13 d4), (proj 14 d4), (proj 15 d4)]), .val), (d6, .val)] sg) fun q7 =>
  ob (dBin .add t102 (.int .i64 1)) fun d8 =>
  P_tree_scope_look_21h R t0i t3i t100 t101 d8 q7.2) := konP_of [] (by kernel_rfl)
theorem fix_tree_scope_look (x0 : Nat) (x1 : DV) (sg : List SObj) : (run cfg).r F_tree_scope_look [(.undef, (.ptr x0 0)), (x1, .val)] sg = P_tree_scope_look (run cfg) x0 x1 sg :=
  (fix_raw (C := cfg) (f := F_tree_scope_look) (s := sig_tree_scope_look) (fn := Try.f61) (c := code_tree_scope_look) (by kernel_rfl) Try.func61 (by kernel_rfl)).trans (by kernel_rfl)
theorem call_tree_scope_look (x0 : Nat) (x1 : DV) (sg : List SObj) {q : List DV × List SObj} (h : P_tree_scope_look (run cfg) x0 x1 sg = some q) : (run cfg).r F_tree_scope_look [(.undef, (.ptr x0 0)), (x1, .val)] sg = some q := (fix_tree_scope_look x0 x1 sg).trans h

noncomputable def code_slices_Contains__string_string : Code := Try.f63.body.getD .skip
noncomputable def P_slices_Contains__string_string (R : Orc) (x0 : DV) (x1 : DV) : Option DV := evP cfg R fl_slices_Contains__string_string (retP cfg.P Try.f63) [] code_slices_Contains__string_string (initSt Try.f63 [(x0, .val), (x1, .val)] [])
theorem eq_slices_Contains__string_string (R : Orc) (x0 : DV) (x1 : DV) : P_slices_Contains__string_string R x0 x1 =
  (ob (R.p F_slices_Index__string_string [x0, x1]) fun d1 =>
  ob (dBin .geq d1 (.int .i64 0)) fun d2 =>
  some d2) := evP_of [] (by kernel_rfl)
theorem fix_slices_Contains__string_string (x0 : DV) (x1 : DV) : (run cfg).p F_slices_Contains__string_string [x0, x1] = P_slices_Contains__string_string (run cfg) x0 x1 :=
  (fix_pure (C := cfg) (f := F_slices_Contains__string_string) (fn := Try.f63) (c := code_slices_Contains__string_string) (by kernel_rfl) Try.func63 (by kernel_rfl)).trans (by kernel_rfl)
theorem call_slices_Contains__string_string (x0 : DV) (x1 : DV) {d : DV} (h : P_slices_Contains__string_string (run cfg) x0 x1 = some d) : (run cfg).p F_slices_Contains__string_string [x0, x1] = some d := (fix_slices_Contains__string_string x0 x1).trans h

noncomputable def code_erase_patNames : Code := Try.f64.body.getD .skip
noncomputable def P_erase_patNames (R : Orc) (x0 : DV) (x1 : DV) (sg : List SObj) : Option (List DV × List SObj) := evP cfg R fl_erase_patNames (retR cfg.P Try.f64 sig_erase_patNames) [] code_erase_patNames (initSt Try.f64 [(x0, .val), (x1, .own)] sg)
noncomputable def P_erase_patNames_4h (R : Orc) (t1 : DV) (t16 : DV) (t17 : DV) (t18 : DV) (sg : List SObj) : Option (List DV × List SObj) := headP cfg R fl_erase_patNames (retR cfg.P Try.f64 sig_erase_patNames) [true, true, false, true, false] code_erase_patNames ⟨spread .undef 27 0 [(1, t1), (16, t16), (17, t17), (18, t18)], spread .val 27 0 [(1, .own)], spread none 27 0 [], sg⟩
theorem eq_erase_patNames (R : Orc) (x0 : DV) (x1 : DV) (sg : List SObj) : P_erase_patNames R x0 x1 sg =
  (og (isAggN 7 x0) <|
  ob (dBin .eql (proj 0 x0) (.int .i64 2)) fun d1 =>
  oif d1
   (og (isCell (proj 3 x0)) <|
   ob (dApp 1 x1 (.list 1 [(proj 3 x0)])) fun d2 =>
   ob (dLen (proj 6 x0)) fun d3 =>
   P_erase_patNames_4h R d2 (proj 6 x0) d3 (.int .i64 0) sg)
   (ob (dLen (proj 6 x0)) fun d4 =>
   P_erase_patNames_4h R x1 (proj 6 x0) d4 (.int .i64 0) sg)) := evP_of [] (by kernel_rfl)
theorem eq_erase_patNames_4h (R : Orc) (t1 : DV) (t16 : DV) (t17 : DV) (t18 : DV) (sg : List SObj) : P_erase_patNames_4h R t1 t16 t17 t18 sg =
  (ob (dBin .lss t18 t17) fun d1 =>
  oif d1
   (ob (dIdx 7 t16 t18) fun d2 =>
   ob (R.r F_erase_patNames [((.agg [(proj 0 d2), (proj 1 d2), (proj 2 d2), (proj 3 d2), (proj 4 d2), (proj 5 d2), (proj 6 d2)]), .val), (t1, .own)] sg) fun q3 =>
   ob (dBin .add t18 (.int .i64 1)) fun d4 =>
   P_erase_patNames_4h R (q3.1.getD 0 .undef) t16 t17 d4 q3.2)
   (some ([t1], sg))) := headP_of [] (by kernel_rfl)
theorem fix_erase_patNames (x0 : DV) (x1 : DV) (sg : List SObj) : (run cfg).r F_erase_patNames [(x0, .val), (x1, .own)] sg = P_erase_patNames (run cfg) x0 x1 sg :=
  (fix_raw (C := cfg) (f := F_erase_patNames) (s := sig_erase_patNames) (fn := Try.f64) (c := code_erase_patNames) (by kernel_rfl) Try.func64 (by kernel_rfl)).trans (by kernel_rfl)
theorem call_erase_patNames (x0 : DV) (x1 : DV) (sg : List SObj) {q : List DV × List SObj} (h : P_erase_patNames (run cfg) x0 x1 sg = some q) : (run cfg).r F_erase_patNames [(x0, .val), (x1, .own)] sg = some q := (fix_erase_patNames x0 x1 sg).trans h

noncomputable def code_erase_many : Code := Try.f65.body.getD .skip
noncomputable def P_erase_many (R : Orc) (x0 : DV) : Option DV := evP cfg R fl_erase_many (retP cfg.P Try.f65) [] code_erase_many (initSt Try.f65 [(x0, .val)] [])
theorem eq_erase_many (R : Orc) (x0 : DV) : P_erase_many R x0 =
  (ob (dBin .eql x0 (.int .i64 6)) fun d1 =>
  oif d1
   (some (.int .i64 2))
   (ob (dBin .eql x0 (.int .i64 8)) fun d2 =>
   oif d2
    (some (.int .i64 2))
    (ob (dBin .eql x0 (.int .i64 10)) fun d3 =>
    oif d3
     (some (.int .i64 2))
     (ob (dBin .eql x0 (.int .i64 16)) fun d4 =>
     oif d4
      (some (.int .i64 2))
      (ob (dBin .eql x0 (.int .i64 11)) fun d5 =>
      oif d5
       (some (.int .i64 1))
       (ob (dBin .eql x0 (.int .i64 13)) fun d6 =>
       oif d6
        (some (.int .i64 1))
        (ob (dBin .eql x0 (.int .i64 14)) fun d7 =>
        oif d7
         (some (.int .i64 1))
         (ob (dBin .eql x0 (.int .i64 15)) fun d8 =>
         oif d8
          (some (.int .i64 1))
          (some (.int .i64 0)))))))))) := evP_of [] (by kernel_rfl)
theorem fix_erase_many (x0 : DV) : (run cfg).p F_erase_many [x0] = P_erase_many (run cfg) x0 :=
  (fix_pure (C := cfg) (f := F_erase_many) (fn := Try.f65) (c := code_erase_many) (by kernel_rfl) Try.func65 (by kernel_rfl)).trans (by kernel_rfl)
theorem call_erase_many (x0 : DV) {d : DV} (h : P_erase_many (run cfg) x0 = some d) : (run cfg).p F_erase_many [x0] = some d := (fix_erase_many x0).trans h

noncomputable def code_erase_operate : Code := Try.f67.body.getD .skip
noncomputable def P_erase_operate (R : Orc) (x0 : DV) (x1 : DV) (x2 : DV) : Option DV := evP cfg R fl_erase_operate (retP cfg.P Try.f67) [] code_erase_operate (initSt Try.f67 [(x0, .val), (x1, .val), (x2, .val)] [])
noncomputable def P_erase_operate_4 (R : Orc) (t8 : DV) (b3 : DV) (b4 : DV) (b5 : DV) (b6_0 : DV) (b6_1 : DV) (b6_2 : DV) (b6_3 : DV) (b6_4 : DV) (b6_5 : DV) (b6_6 : DV) (b6_7 : DV) (b6_8 : DV) (b6_9 : DV) (b6_10 : DV) (b6_11 : DV) (b6_12 : DV) (b6_13 : DV) (b6_14 : DV) (b6_15 : DV) (b7_0 : DV) (b7_1 : DV) (b7_2 : DV) (b7_3 : DV) (b7_4 : DV) (b7_5 : DV) (b7_6 : DV) (b7_7 : DV) (b7_8 : DV) (b7_9 : DV) (b7_10 : DV) (b7_11 : DV) (b7_12 : DV) (b7_13 : DV) (b7_14 : DV) : Option DV := evP cfg R fl_erase_operate (retP cfg.P Try.f67) [true, true, true] code_erase_operate ⟨spread .undef 103 0 [(8, t8)], spread .val 103 0 [(3, (.loc 3 0)), (4, (.loc 4 0)), (5, (.loc 5 0)), (6, (.loc 6 0)), (7, (.loc 7 0))], spread none 103 0 [(3, some [((proj 0 b3), .val), ((proj 1 b3), .val), ((proj 2 b3), .val), ((proj 3 b3), .val), ((proj 4 b3), .val), ((proj 5 b3), .val), ((proj 6 b3), .val), ((proj 7 b3), .val), ((proj 8 b3), .val), ((proj 9 b3), .val), ((proj 10 b3), .val), ((proj 11 b3), .val), ((proj 12 b3), .val), ((proj 13 b3), .val), ((proj 14 b3), .val), ((proj 15 b3), .val)]), (4, some [((proj 0 b4), .val), ((proj 1 b4), .val), ((proj 2 b4), .val), ((proj 3 b4), .val), ((proj 4 b4), .val), ((proj 5 b4), .val), ((proj 6 b4), .val), ((proj 7 b4), .val), ((proj 8 b4), .val), ((proj 9 b4), .val), ((proj 10 b4), .val), ((proj 11 b4), .val), ((proj 12 b4), .val), ((proj 13 b4), .val), ((proj 14 b4), .val), ((proj 15 b4), .val)]), (5, some [((proj 0 b5), .val), ((proj 1 b5), .val), ((proj 2 b5), .val), ((proj 3 b5), .val), ((proj 4 b5), .val), ((proj 5 b5), .val), ((proj 6 b5), .val), ((proj 7 b5), .val), ((proj 8 b5), .val), ((proj 9 b5), .val), ((proj 10 b5), .val), ((proj 11 b5), .val), ((proj 12 b5), .val), ((proj 13 b5), .val), ((proj 14 b5), .val), ((proj 15 b5), .val)]), (6, some [(b6_0, .val), (b6_1, .val), (b6_2, .val), (b6_3, .val), (b6_4, .val), (b6_5, .val), (b6_6, .val), (b6_7, .val), (b6_8, .val), (b6_9, .val), (b6_10, .val), (b6_11, .val), (b6_12, .val), (b6_13, .val), (b6_14, .val), (b6_15, .val)]), (7, some [(b7_0, .val), (b7_1, .val), (b7_2, .val), (b7_3, .val), (b7_4, .val), (b7_5, .val), (b7_6, .val), (b7_7, .val), (b7_8, .val), (b7_9, .val), (b7_10, .val), (b7_11, .val), (b7_12, .val), (b7_13, .val), (b7_14, .val)])], []⟩
noncomputable def P_erase_operate_27 (R : Orc) (t10 : DV) (b6_0 : DV) (b6_1 : DV) (b6_2 : DV) (b6_3 : DV) (b6_4 : DV) (b6_5 : DV) (b6_6 : DV) (b6_7 : DV) (b6_8 : DV) (b6_9 : DV) (b6_10 : DV) (b6_11 : DV) (b6_12 : DV) (b6_13 : DV) (b6_14 : DV) (b6_15 : DV) (b7_0 : DV) (b7_1 : DV) (b7_2 : DV) (b7_3 : DV) (b7_4 : DV) (b7_5 : DV) (b7_6 : DV) (b7_7 : DV) (b7_8 : DV) (b7_9 : DV) (b7_10 : DV) (b7_11 : DV) (b7_12 : DV) (b7_13 : DV) (b7_14 : DV) (b9_0 : DV) (b9_1 : DV) (b9_2 : DV) (b9_3 : DV) (b9_4 : DV) (b9_5 : DV) (b9_6 : DV) (b9_7 : DV) (b9_8 : DV) (b9_9 : DV) (b9_10 : DV) (b9_11 : DV) (b9_12 : DV) (b9_13 : DV) (b9_14 : DV) (b9_15 : DV) : Option DV := evP cfg R fl_erase_operate (retP cfg.P Try.f67) [true, true, true, true, true, true] code_erase_operate ⟨spread .undef 103 0 [(10, t10)], spread .val 103 0 [(6, (.loc 6 0)), (7, (.loc 7 0)), (9, (.loc 9 0))], spread none 103 0 [(6, some [(b6_0, .val), (b6_1, .val), (b6_2, .val), (b6_3, .val), (b6_4, .val), (b6_5, .val), (b6_6, .val), (b6_7, .val), (b6_8, .val), (b6_9, .val), (b6_10, .val), (b6_11, .val), (b6_12, .val), (b6_13, .val), (b6_14, .val), (b6_15, .val)]), (7, some [(b7_0, .val), (b7_1, .val), (b7_2, .val), (b7_3, .val), (b7_4, .val), (b7_5, .val), (b7_6, .val), (b7_7, .val), (b7_8, .val), (b7_9, .val), (b7_10, .val), (b7_11, .val), (b7_12, .val), (b7_13, .val), (b7_14, .val)]), (9, some [(b9_0, .val), (b9_1, .val), (b9_2, .val), (b9_3, .val), (b9_4, .val), (b9_5, .val), (b9_6, .val), (b9_7, .val), (b9_8, .val), (b9_9, .val), (b9_10, .val), (b9_11, .val), (b9_12, .val), (b9_13, .val), (b9_14, .val), (b9_15, .val)])], []⟩
theorem eq_erase_operate (R : Orc) (x0 : DV) (x1 : DV) (x2 : DV) : P_erase_operate R x0 x1 x2 =
  (og (isAggN 16 x0) <|
  og (isAggN 16 x1) <|
  og (isAggN 16 x2) <|
  ob (dBin .eql (proj 7 x0) (.int .i64 7)) fun d1 =>
  oif d1
   (P_erase_operate_4 R (.int .i64 4) x0 x1 x2 (.int .i64 0) (.int .i64 0) (.int .i64 0) (.str ⟨#[]⟩) (.str ⟨#[]⟩) (.int .i64 0) (.str ⟨#[]⟩) (.int .i64 0) (.int .i64 0) (.int .i64 0) (.list 3 []) (.int .i64 0) (.int .i64 0) (.list 3 []) (.list 7 []) (.list 16 []) (.int .i64 0) (.int .i64 0) (.int .i64 0) (.str ⟨#[]⟩) (.int .i64 0) (.int .i64 0) (.int .i64 0) (.bool false) (.list 5 []) (.list 9 []) (.int .i64 0) (.bool false) (.int .i64 0) (.int .i64 0) (.int .i64 0))
   (P_erase_operate_4 R (.int .i64 2) x0 x1 x2 (.int .i64 0) (.int .i64 0) (.int .i64 0) (.str ⟨#[]⟩) (.str ⟨#[]⟩) (.int .i64 0) (.str ⟨#[]⟩) (.int .i64 0) (.int .i64 0) (.int .i64 0) (.list 3 []) (.int .i64 0) (.int .i64 0) (.list 3 []) (.list 7 []) (.list 16 []) (.int .i64 0) (.int .i64 0) (.int .i64 0) (.str ⟨#[]⟩) (.int .i64 0) (.int .i64 0) (.int .i64 0) (.bool false) (.list 5 []) (.list 9 []) (.int .i64 0) (.bool false) (.int .i64 0) (.int .i64 0) (.int .i64 0))) := evP_of [4, 27] (by kernel_rfl)
set_option maxRecDepth 100000 in
theorem eq_erase_operate_4 (R : Orc) (t8 : DV) (b3 : DV) (b4 : DV) (b5 : DV) (b6_0 : DV) (b6_1 : DV) (b6_2 : DV) (b6_3 : DV) (b6_4 : DV) (b6_5 : DV) (b6_6 : DV) (b6_7 : DV) (b6_8 : DV) (b6_9 : DV) (b6_10 : DV) (b6_11 : DV) (b6_12 : DV) (b6_13 : DV) (b6_14 : DV) (b6_15 : DV) (b7_0 : DV) (b7_1 : DV) (b7_2 : DV) (b7_3 : DV) (b7_4 : DV) (b7_5 : DV) (b7_6 : DV) (b7_7 : DV) (b7_8 : DV) (b7_9 : DV) (b7_10 : DV) (b7_11 : DV) (b7_12 : DV) (b7_13 : DV) (b7_14 : DV) : P_erase_operate_4 R t8 b3 b4 b5 b6_0 b6_1 b6_2 b6_3 b6_4 b6_5 b6_6 b6_7 b6_8 b6_9 b6_10 b6_11 b6_12 b6_13 b6_14 b6_15 b7_0 b7_1 b7_2 b7_3 b7_4 b7_5 b7_6 b7_7 b7_8 b7_9 b7_10 b7_11 b7_12 b7_13 b7_14 =
  (ob (dBin .neq (proj 0 b4) t8) fun d1 =>
  ogd d1
   (ob (R.p F_erase_stuck []) fun d2 =>
   ob (dExt 0 d2) fun d3 =>
   ob (dExt 1 d2) fun d4 =>
   og (isAggN 16 d3) <|
   og (isAggN 15 d4) <|
   some (.tup [(.agg [(proj 0 d3), (proj 1 d3), (proj 2 d3), (proj 3 d3), (proj 4 d3), (proj 5 d3), (proj 6 d3), (proj 7 d3), (proj 8 d3), (proj 9 d3), (proj 10 d3), (proj 11 d3), (proj 12 d3), (proj 13 d3), (proj 14 d3), (proj 15 d3)]), (.agg [(proj 0 d4), (proj 1 d4), (proj 2 d4), (proj 3 d4), (proj 4 d4), (proj 5 d4), (proj 6 d4), (proj 7 d4), (proj 8 d4), (proj 9 d4), (proj 10 d4), (proj 11 d4), (proj 12 d4), (proj 13 d4), (proj 14 d4)])]))
   (ob (dBin .neq (proj 0 b5) t8) fun d5 =>
   oif d5
    (ob (R.p F_erase_stuck []) fun d6 =>
    ob (dExt 0 d6) fun d7 =>
    ob (dExt 1 d6) fun d8 =>
    og (isAggN 16 d7) <|
    og (isAggN 15 d8) <|
    some (.tup [(.agg [(proj 0 d7), (proj 1 d7), (proj 2 d7), (proj 3 d7), (proj 4 d7), (proj 5 d7), (proj 6 d7), (proj 7 d7), (proj 8 d7), (proj 9 d7), (proj 10 d7), (proj 11 d7), (proj 12 d7), (proj 13 d7), (proj 14 d7), (proj 15 d7)]), (.agg [(proj 0 d8), (proj 1 d8), (proj 2 d8), (proj 3 d8), (proj 4 d8), (proj 5 d8), (proj 6 d8), (proj 7 d8), (proj 8 d8), (proj 9 d8), (proj 10 d8), (proj 11 d8), (proj 12 d8), (proj 13 d8), (proj 14 d8)])]))
    (ob (dBin .eql (proj 7 b3) (.int .i64 1)) fun d9 =>
    oif d9
     (ob (dBin .add (proj 5 b4) (proj 5 b5)) fun d10 =>
     og (isCell d10) <|
     some (.tup [(.agg [(.int .i64 2), (proj 1 b3), (proj 2 b3), (.str ⟨#[]⟩), (.str ⟨#[]⟩), d10, (.str ⟨#[]⟩), (.int .i64 0), (.int .i64 0), (.int .i64 0), (.list 3 []), (.int .i64 0), (.int .i64 0), (.list 3 []), (.list 7 []), (.list 16 [])]), (.agg [(.int .i64 0), (.int .i64 0), (.int .i64 0), (.str ⟨#[]⟩), (.int .i64 0), (.int .i64 0), (.int .i64 0), (.bool false), (.list 5 []), (.list 9 []), (.int .i64 0), (.bool false), (.int .i64 0), (.int .i64 0), (.int .i64 0)])]))
     (ob (dBin .eql (proj 7 b3) (.int .i64 2)) fun d11 =>
     oif d11
      (ob (dBin .sub (proj 5 b4) (proj 5 b5)) fun d12 =>
      og (isCell d12) <|
      some (.tup [(.agg [(.int .i64 2), (proj 1 b3), (proj 2 b3), (.str ⟨#[]⟩), (.str ⟨#[]⟩), d12, (.str ⟨#[]⟩), (.int .i64 0), (.int .i64 0), (.int .i64 0), (.list 3 []), (.int .i64 0), (.int .i64 0), (.list 3 []), (.list 7 []), (.list 16 [])]), (.agg [(.int .i64 0), (.int .i64 0), (.int .i64 0), (.str ⟨#[]⟩), (.int .i64 0), (.int .i64 0), (.int .i64 0), (.bool false), (.list 5 []), (.list 9 []), (.int .i64 0), (.bool false), (.int .i64 0), (.int .i64 0), (.int .i64 0)])]))
      (ob (dBin .eql (proj 7 b3) (.int .i64 3)) fun d13 =>
      oif d13
       (ob (dBin .mul (proj 5 b4) (proj 5 b5)) fun d14 =>
       og (isCell d14) <|
       some (.tup [(.agg [(.int .i64 2), (proj 1 b3), (proj 2 b3), (.str ⟨#[]⟩), (.str ⟨#[]⟩), d14, (.str ⟨#[]⟩), (.int .i64 0), (.int .i64 0), (.int .i64 0), (.list 3 []), (.int .i64 0), (.int .i64 0), (.list 3 []), (.list 7 []), (.list 16 [])]), (.agg [(.int .i64 0), (.int .i64 0), (.int .i64 0), (.str ⟨#[]⟩), (.int .i64 0), (.int .i64 0), (.int .i64 0), (.bool false), (.list 5 []), (.list 9 []), (.int .i64 0), (.bool false), (.int .i64 0), (.int .i64 0), (.int .i64 0)])]))
       (ob (dBin .eql (proj 7 b3) (.int .i64 4)) fun d15 =>
       oif d15
        (ob (dBin .eql (proj 5 b5) (.int .i64 0)) fun d16 =>
        oif d16
         (some (.tup [(.agg [(.int .i64 0), (.int .i64 0), (.int .i64 0), (.str ⟨#[]⟩), (.str ⟨#[]⟩), (.int .i64 0), (.str ⟨#[]⟩), (.int .i64 0), (.int .i64 0), (.int .i64 0), (.list 3 []), (.int .i64 0), (.int .i64 0), (.list 3 []), (.list 7 []), (.list 16 [])]), (.agg [(.int .i64 3), (.int .i64 0), (.int .i64 0), (.str ⟨#[]⟩), (.int .i64 0), (.int .i64 0), (.int .i64 0), (.bool false), (.list 5 []), (.list 9 []), (.int .i64 0), (.bool false), (proj 1 b3), (proj 2 b3), (.int .i64 0)])]))
         (ob (dBin .quo (proj 5 b4) (proj 5 b5)) fun d17 =>
         og (isCell d17) <|
         some (.tup [(.agg [(.int .i64 2), (proj 1 b3), (proj 2 b3), (.str ⟨#[]⟩), (.str ⟨#[]⟩), d17, (.str ⟨#[]⟩), (.int .i64 0), (.int .i64 0), (.int .i64 0), (.list 3 []), (.int .i64 0), (.int .i64 0), (.list 3 []), (.list 7 []), (.list 16 [])]), (.agg [(.int .i64 0), (.int .i64 0), (.int .i64 0), (.str ⟨#[]⟩), (.int .i64 0), (.int .i64 0), (.int .i64 0), (.bool false), (.list 5 []), (.list 9 []), (.int .i64 0), (.bool false), (.int .i64 0), (.int .i64 0), (.int .i64 0)])])))
        (ob (dBin .eql (proj 7 b3) (.int .i64 5)) fun d18 =>
        oif d18
         (ob (dBin .lss (proj 5 b4) (proj 5 b5)) fun d19 =>
         P_erase_operate_27 R d19 b6_0 b6_1 b6_2 b6_3 b6_4 b6_5 b6_6 b6_7 b6_8 b6_9 b6_10 b6_11 b6_12 b6_13 b6_14 b6_15 b7_0 b7_1 b7_2 b7_3 b7_4 b7_5 b7_6 b7_7 b7_8 b7_9 b7_10 b7_11 b7_12 b7_13 b7_14 (.int .i64 2) (proj 1 b3) (proj 2 b3) (.str ⟨#[]⟩) (.str ⟨#[]⟩) (.int .i64 0) (.str ⟨#[]⟩) (.int .i64 0) (.int .i64 0) (.int .i64 0) (.list 3 []) (.int .i64 0) (.int .i64 0) (.list 3 []) (.list 7 []) (.list 16 []))
         (ob (dBin .eql (proj 7 b3) (.int .i64 6)) fun d20 =>
         oif d20
          (ob (dBin .eql (proj 5 b4) (proj 5 b5)) fun d21 =>
          P_erase_operate_27 R d21 b6_0 b6_1 b6_2 b6_3 b6_4 b6_5 b6_6 b6_7 b6_8 b6_9 b6_10 b6_11 b6_12 b6_13 b6_14 b6_15 b7_0 b7_1 b7_2 b7_3 b7_4 b7_5 b7_6 b7_7 b7_8 b7_9 b7_10 b7_11 b7_12 b7_13 b7_14 (.int .i64 2) (proj 1 b3) (proj 2 b3) (.str ⟨#[]⟩) (.str ⟨#[]⟩) (.int .i64 0) (.str ⟨#[]⟩) (.int .i64 0) (.int .i64 0) (.int .i64 0) (.list 3 []) (.int .i64 0) (.int .i64 0) (.list 3 []) (.list 7 []) (.list 16 []))
          (ob (dBin .eql (proj 6 b4) (proj 6 b5)) fun d22 =>
          P_erase_operate_27 R d22 b6_0 b6_1 b6_2 b6_3 b6_4 b6_5 b6_6 b6_7 b6_8 b6_9 b6_10 b6_11 b6_12 b6_13 b6_14 b6_15 b7_0 b7_1 b7_2 b7_3 b7_4 b7_5 b7_6 b7_7 b7_8 b7_9 b7_10 b7_11 b7_12 b7_13 b7_14 (.int .i64 2) (proj 1 b3) (proj 2 b3) (.str ⟨#[]⟩) (.str ⟨#[]⟩) (.int .i64 0) (.str ⟨#[]⟩) (.int .i64 0) (.int .i64 0) (.int .i64 0) (.list 3 []) (.int .i64 0) (.int .i64 0) (.list 3 []) (.list 7 []) (.list 16 [])))))))))
   none) := evP_of [4, 27] (by kernel_rfl)
theorem fix_erase_operate (x0 : DV) (x1 : DV) (x2 : DV) : (run cfg).p F_erase_operate [x0, x1, x2] = P_erase_operate (run cfg) x0 x1 x2 :=
  (fix_pure (C := cfg) (f := F_erase_operate) (fn := Try.f67) (c := code_erase_operate) (by kernel_rfl) Try.func67 (by kernel_rfl)).trans (by kernel_rfl)
theorem call_erase_operate (x0 : DV) (x1 : DV) (x2 : DV) {d : DV} (h : P_erase_operate (run cfg) x0 x1 x2 = some d) : (run cfg).p F_erase_operate [x0, x1, x2] = some d := (fix_erase_operate x0 x1 x2).trans h

end Go.Su

/-
  Equations of the program's functions: by program.
-/
namespace Go.Su
open Go.Proofs
set_option linter.unusedVariables false

noncomputable def code_r03_Kids : Code := Try.f69.body.getD .skip
noncomputable def P_r03_Kids (R : Orc) (x0 : DV) : Option DV := evP cfg R fl_r03_Kids (retP cfg.P Try.f69) [] code_r03_Kids (initSt Try.f69 [(x0, .val)] [])
theorem eq_r03_Kids (R : Orc) (x0 : DV) : P_r03_Kids R x0 =
  (ob (dBin .eql x0 (.int .i64 1)) fun d1 =>
  oif d1
   (some (.int .i64 0))
   (ob (dBin .eql x0 (.int .i64 2)) fun d2 =>
   oif d2
    (some (.int .i64 0))
    (ob (dBin .eql x0 (.int .i64 3)) fun d3 =>
    oif d3
     (some (.int .i64 0))
     (ob (dBin .eql x0 (.int .i64 4)) fun d4 =>
     oif d4
      (some (.int .i64 0))
      (ob (dBin .eql x0 (.int .i64 5)) fun d5 =>
      oif d5
       (some (.int .i64 0))
       (ob (dBin .eql x0 (.int .i64 6)) fun d6 =>
       oif d6
        (some (.int .i64 0))
        (ob (dBin .eql x0 (.int .i64 8)) fun d7 =>
        oif d7
         (some (.int .i64 1))
         (ob (dBin .eql x0 (.int .i64 7)) fun d8 =>
         oif d8
          (some (.int .i64 2))
          (ob (dBin .eql x0 (.int .i64 9)) fun d9 =>
          oif d9
           (some (.int .i64 2))
           (some (.int .i64 (-1)))))))))))) := evP_of [] (by kernel_rfl)
theorem fix_r03_Kids (x0 : DV) : (run cfg).p F_r03_Kids [x0] = P_r03_Kids (run cfg) x0 :=
  (fix_pure (C := cfg) (f := F_r03_Kids) (fn := Try.f69) (c := code_r03_Kids) (by kernel_rfl) Try.func69 (by kernel_rfl)).trans (by kernel_rfl)
theorem call_r03_Kids (x0 : DV) {d : DV} (h : P_r03_Kids (run cfg) x0 = some d) : (run cfg).p F_r03_Kids [x0] = some d := (fix_r03_Kids x0).trans h

noncomputable def code_r01_digit : Code := Try.f70.body.getD .skip
noncomputable def P_r01_digit (R : Orc) (x0 : DV) : Option DV := evP cfg R fl_r01_digit (retP cfg.P Try.f70) [] code_r01_digit (initSt Try.f70 [(x0, .val)] [])
theorem eq_r01_digit (R : Orc) (x0 : DV) : P_r01_digit R x0 =
  (ob (dBin .geq x0 (.int .u8 48)) fun d1 =>
  ogd d1
   (ob (dBin .leq x0 (.int .u8 57)) fun d2 =>
   some d2)
   (some (.bool false))
   none) := evP_of [] (by kernel_rfl)
theorem fix_r01_digit (x0 : DV) : (run cfg).p F_r01_digit [x0] = P_r01_digit (run cfg) x0 :=
  (fix_pure (C := cfg) (f := F_r01_digit) (fn := Try.f70) (c := code_r01_digit) (by kernel_rfl) Try.func70 (by kernel_rfl)).trans (by kernel_rfl)
theorem call_r01_digit (x0 : DV) {d : DV} (h : P_r01_digit (run cfg) x0 = some d) : (run cfg).p F_r01_digit [x0] = some d := (fix_r01_digit x0).trans h

noncomputable def code_typ_Check : Code := Try.f71.body.getD .skip
noncomputable def P_typ_Check (R : Orc) (x0 : DV) : Option DV := evP cfg R fl_typ_Check (retP cfg.P Try.f71) [] code_typ_Check (initSt Try.f71 [(x0, .val)] [])
theorem eq_typ_Check (R : Orc) (x0 : DV) : P_typ_Check R x0 =
  (og (isAggN 3 x0) <|
  ob (R.p F_typ_right [(.agg [(proj 0 x0), (proj 1 x0), (proj 2 x0)])]) fun d1 =>
  ob (dUn .not d1) fun d2 =>
  oif d2
   (some (.int .i64 1))
   (some (.int .i64 0))) := evP_of [] (by kernel_rfl)
theorem fix_typ_Check (x0 : DV) : (run cfg).p F_typ_Check [x0] = P_typ_Check (run cfg) x0 :=
  (fix_pure (C := cfg) (f := F_typ_Check) (fn := Try.f71) (c := code_typ_Check) (by kernel_rfl) Try.func71 (by kernel_rfl)).trans (by kernel_rfl)
theorem call_typ_Check (x0 : DV) {d : DV} (h : P_typ_Check (run cfg) x0 = some d) : (run cfg).p F_typ_Check [x0] = some d := (fix_typ_Check x0).trans h

noncomputable def code_typ_Closed : Code := Try.f72.body.getD .skip
noncomputable def P_typ_Closed (R : Orc) (x0 : DV) : Option DV := evP cfg R fl_typ_Closed (retP cfg.P Try.f72) [] code_typ_Closed (initSt Try.f72 [(x0, .val)] [])
theorem eq_typ_Closed (R : Orc) (x0 : DV) : P_typ_Closed R x0 =
  (og (isAggN 3 x0) <|
  ob (R.p F_typ_without [(.agg [(proj 0 x0), (proj 1 x0), (proj 2 x0)]), (.int .i64 6)]) fun d1 =>
  some d1) := evP_of [] (by kernel_rfl)
theorem fix_typ_Closed (x0 : DV) : (run cfg).p F_typ_Closed [x0] = P_typ_Closed (run cfg) x0 :=
  (fix_pure (C := cfg) (f := F_typ_Closed) (fn := Try.f72) (c := code_typ_Closed) (by kernel_rfl) Try.func72 (by kernel_rfl)).trans (by kernel_rfl)
theorem call_typ_Closed (x0 : DV) {d : DV} (h : P_typ_Closed (run cfg) x0 = some d) : (run cfg).p F_typ_Closed [x0] = some d := (fix_typ_Closed x0).trans h

noncomputable def code_tree_onePat : Code := Try.f74.body.getD .skip
noncomputable def P_tree_onePat (R : Orc) (x0 : DV) : Option DV := evP cfg R fl_tree_onePat (retP cfg.P Try.f74) [] code_tree_onePat (initSt Try.f74 [(x0, .val)] [])
noncomputable def P_tree_onePat_24 (R : Orc) (t4 : DV) (b1 : DV) (b3_0 : DV) (b3_1 : DV) (b3_2 : DV) (b3_3 : DV) (b3_4 : DV) (b3_5 : DV) (b3_6 : DV) : Option DV := evP cfg R fl_tree_onePat (retP cfg.P Try.f74) [true, true, true] code_tree_onePat ⟨spread .undef 83 0 [(4, t4)], spread .val 83 0 [(1, (.loc 1 0)), (3, (.loc 3 0))], spread none 83 0 [(1, some [((proj 0 b1), .val), ((proj 1 b1), .val), ((proj 2 b1), .val), ((proj 3 b1), .val), ((proj 4 b1), .val), ((proj 5 b1), .val), ((proj 6 b1), .val)]), (3, some [(b3_0, .val), (b3_1, .val), (b3_2, .val), (b3_3, .val), (b3_4, .val), (b3_5, .val), (b3_6, .val)])], []⟩
set_option maxRecDepth 100000 in
theorem eq_tree_onePat (R : Orc) (x0 : DV) : P_tree_onePat R x0 =
  (og (isAggN 7 x0) <|
  og (isCell (proj 0 x0)) <|
  og (isCell (proj 6 x0)) <|
  ob (dBin .eql (proj 0 x0) (.int .i64 1)) fun d1 =>
  oif d1
   (P_tree_onePat_24 R (.int .i64 0) x0 (proj 0 x0) (proj 1 x0) (proj 2 x0) (.str ⟨#[]⟩) (.int .i64 0) (.str ⟨#[]⟩) (proj 6 x0))
   (ob (dBin .eql (proj 0 x0) (.int .i64 6)) fun d2 =>
   oif d2
    (P_tree_onePat_24 R (.int .i64 0) x0 (proj 0 x0) (proj 1 x0) (proj 2 x0) (.str ⟨#[]⟩) (.int .i64 0) (.str ⟨#[]⟩) (proj 6 x0))
    (ob (dBin .eql (proj 0 x0) (.int .i64 8)) fun d3 =>
    oif d3
     (P_tree_onePat_24 R (.int .i64 0) x0 (proj 0 x0) (proj 1 x0) (proj 2 x0) (.str ⟨#[]⟩) (.int .i64 0) (.str ⟨#[]⟩) (proj 6 x0))
     (ob (dBin .eql (proj 0 x0) (.int .i64 2)) fun d4 =>
     oif d4
      (og (isCell (proj 3 x0)) <|
      ob (R.p F_word_Name [(proj 3 x0)]) fun d5 =>
      ob (dUn .not d5) fun d6 =>
      oif d6
       (some (.bool false))
       (P_tree_onePat_24 R (.int .i64 0) x0 (proj 0 x0) (proj 1 x0) (proj 2 x0) (proj 3 x0) (.int .i64 0) (.str ⟨#[]⟩) (proj 6 x0)))
      (ob (dBin .eql (proj 0 x0) (.int .i64 3)) fun d7 =>
      oif d7
       (og (isCell (proj 4 x0)) <|
       P_tree_onePat_24 R (.int .i64 0) x0 (proj 0 x0) (proj 1 x0) (proj 2 x0) (.str ⟨#[]⟩) (proj 4 x0) (.str ⟨#[]⟩) (proj 6 x0))
       (ob (dBin .eql (proj 0 x0) (.int .i64 4)) fun d8 =>
       oif d8
        (og (isCell (proj 4 x0)) <|
        ob (dBin .neq (proj 4 x0) (.int .i64 0)) fun d9 =>
        ogd d9
         (ob (dBin .neq (proj 4 x0) (.int .i64 1)) fun d10 =>
         oif d10
          (some (.bool false))
          (P_tree_onePat_24 R (.int .i64 0) x0 (proj 0 x0) (proj 1 x0) (proj 2 x0) (.str ⟨#[]⟩) (proj 4 x0) (.str ⟨#[]⟩) (proj 6 x0)))
         (P_tree_onePat_24 R (.int .i64 0) x0 (proj 0 x0) (proj 1 x0) (proj 2 x0) (.str ⟨#[]⟩) (proj 4 x0) (.str ⟨#[]⟩) (proj 6 x0))
         none)
        (ob (dBin .eql (proj 0 x0) (.int .i64 5)) fun d11 =>
        oif d11
         (og (isCell (proj 5 x0)) <|
         ob (dLenS (proj 5 x0)) fun d12 =>
         ob (dBin .gtr d12 (.int .i64 200)) fun d13 =>
         oif d13
          (some (.bool false))
          (P_tree_onePat_24 R (.int .i64 0) x0 (proj 0 x0) (proj 1 x0) (proj 2 x0) (.str ⟨#[]⟩) (.int .i64 0) (proj 5 x0) (proj 6 x0)))
         (ob (dBin .eql (proj 0 x0) (.int .i64 7)) fun d14 =>
         oif d14
          (P_tree_onePat_24 R (.int .i64 2) x0 (proj 0 x0) (proj 1 x0) (proj 2 x0) (.str ⟨#[]⟩) (.int .i64 0) (.str ⟨#[]⟩) (proj 6 x0))
          (ob (dBin .eql (proj 0 x0) (.int .i64 9)) fun d15 =>
          oif d15
           (P_tree_onePat_24 R (.int .i64 2) x0 (proj 0 x0) (proj 1 x0) (proj 2 x0) (.str ⟨#[]⟩) (.int .i64 0) (.str ⟨#[]⟩) (proj 6 x0))
           (some (.bool false))))))))))) := evP_of [24] (by kernel_rfl)
set_option maxRecDepth 100000 in
theorem eq_tree_onePat_24 (R : Orc) (t4 : DV) (b1 : DV) (b3_0 : DV) (b3_1 : DV) (b3_2 : DV) (b3_3 : DV) (b3_4 : DV) (b3_5 : DV) (b3_6 : DV) : P_tree_onePat_24 R t4 b1 b3_0 b3_1 b3_2 b3_3 b3_4 b3_5 b3_6 =
  (ob (dLen (proj 6 b1)) fun d1 =>
  ob (dBin .eql d1 t4) fun d2 =>
  ogd d2
   (ob (dBin .eql b3_3 (proj 3 b1)) fun d3 =>
   ogd d3
    (ob (dBin .eql b3_4 (proj 4 b1)) fun d4 =>
    ogd d4
     (ob (dBin .eql b3_5 (proj 5 b1)) fun d5 =>
     some d5)
     (some (.bool false))
     none)
    (some (.bool false))
    none)
   (some (.bool false))
   none) := evP_of [24] (by kernel_rfl)
theorem fix_tree_onePat (x0 : DV) : (run cfg).p F_tree_onePat [x0] = P_tree_onePat (run cfg) x0 :=
  (fix_pure (C := cfg) (f := F_tree_onePat) (fn := Try.f74) (c := code_tree_onePat) (by kernel_rfl) Try.func74 (by kernel_rfl)).trans (by kernel_rfl)
theorem call_tree_onePat (x0 : DV) {d : DV} (h : P_tree_onePat (run cfg) x0 = some d) : (run cfg).p F_tree_onePat [x0] = some d := (fix_tree_onePat x0).trans h

noncomputable def code_tree_scope_with : Code := Try.f75.body.getD .skip
noncomputable def P_tree_scope_with (R : Orc) (x0 : Nat) (x1 : DV) (x2 : DV) (sg : List SObj) : Option (List DV × List SObj) := evP cfg R fl_tree_scope_with (retR cfg.P Try.f75 sig_tree_scope_with) [] code_tree_scope_with (initSt Try.f75 [(.undef, (.ptr x0 0)), (x1, .val), (x2, .val)] sg)
noncomputable def P_tree_scope_with_2h (R : Orc) (t0i : Nat) (t2 : DV) (t10 : DV) (t11 : DV) (t12 : DV) (b4 : DV) (sg : List SObj) : Option (List DV × List SObj) := headP cfg R fl_tree_scope_with (retR cfg.P Try.f75 sig_tree_scope_with) [true, false, true, false] code_tree_scope_with ⟨spread .undef 41 0 [(2, t2), (10, t10), (11, t11), (12, t12)], spread .val 41 0 [(0, (.ptr t0i 0)), (4, (.loc 4 0))], spread none 41 0 [(4, some [((proj 0 b4), .val), ((proj 1 b4), .val), ((proj 2 b4), .val), ((proj 3 b4), .val), ((proj 4 b4), .val), ((proj 5 b4), .val), ((proj 6 b4), .val), ((proj 7 b4), .val), ((proj 8 b4), .val), ((proj 9 b4), .val), ((proj 10 b4), .val), ((proj 11 b4), .val), ((proj 12 b4), .val), ((proj 13 b4), .val), ((proj 14 b4), .val), ((proj 15 b4), .val)])], sg⟩
noncomputable def P_tree_scope_with_8h (R : Orc) (t0i : Nat) (t27 : DV) (t28 : DV) (t29 : DV) (sg : List SObj) : Option (List DV × List SObj) := headP cfg R fl_tree_scope_with (retR cfg.P Try.f75 sig_tree_scope_with) [true, true, true, true, false] code_tree_scope_with ⟨spread .undef 41 0 [(27, t27), (28, t28), (29, t29)], spread .val 41 0 [(0, (.ptr t0i 0))], spread none 41 0 [], sg⟩
theorem eq_tree_scope_with (R : Orc) (x0 : Nat) (x1 : DV) (x2 : DV) (sg : List SObj) : P_tree_scope_with R x0 x1 x2 sg =
  (og (isAggN 16 x1) <|
  ob (dLen x2) fun d1 =>
  P_tree_scope_with_2h R x0 x2 x2 d1 (.int .i64 0) x1 sg) := evP_of [] (by kernel_rfl)
theorem eq_tree_scope_with_2h (R : Orc) (t0i : Nat) (t2 : DV) (t10 : DV) (t11 : DV) (t12 : DV) (b4 : DV) (sg : List SObj) : P_tree_scope_with_2h R t0i t2 t10 t11 t12 b4 sg =
  (ob (dBin .lss t12 t11) fun d1 =>
  oif d1
   (ob (dIdx 1 t10 t12) fun d2 =>
   og (isLeaf d2) <|
   ob (sgBox sg t0i) fun c3 =>
   ob (cellMap c3 0) fun i4 =>
   og (isKey true d2 && true) <|
   ob (sgMap sg i4) fun m5 =>
   og (m5.1 == true) <|
   ob (dBin .add ((mGet m5.2 d2).getD (.int .i64 0)) (.int .i64 1)) fun d6 =>
   og (isKey true d2 && true && true) <|
   ob (sgMap sg i4) fun m7 =>
   og (m7.1 == true) <|
   ob (dBin .add t12 (.int .i64 1)) fun d8 =>
   P_tree_scope_with_2h R t0i t2 t10 t11 d8 b4 (sg.set i4 (.map true (mSet m7.2 d2 d6))))
   (ob (R.r F_tree_scope_look [(.undef, (.ptr t0i 0)), ((.agg [(proj 0 b4), (proj 1 b4), (proj 2 b4), (proj 3 b4), (proj 4 b4), (proj 5 b4), (proj 6 b4), (proj 7 b4), (proj 8 b4), (proj 9 b4), (proj 10 b4), (proj 11 b4), (proj 12 b4), (proj 13 b4), (proj 14 b4), (proj 15 b4)]), .val)] sg) fun q9 =>
   ob (dLen t2) fun d10 =>
   P_tree_scope_with_8h R t0i t2 d10 (.int .i64 0) q9.2)) := headP_of [] (by kernel_rfl)
theorem eq_tree_scope_with_8h (R : Orc) (t0i : Nat) (t27 : DV) (t28 : DV) (t29 : DV) (sg : List SObj) : P_tree_scope_with_8h R t0i t27 t28 t29 sg =
  (ob (dBin .lss t29 t28) fun d1 =>
  oif d1
   (ob (dIdx 1 t27 t29) fun d2 =>
   og (isLeaf d2) <|
   ob (sgBox sg t0i) fun c3 =>
   ob (cellMap c3 0) fun i4 =>
   og (isKey true d2 && true) <|
   ob (sgMap sg i4) fun m5 =>
   og (m5.1 == true) <|
   ob (dBin .sub ((mGet m5.2 d2).getD (.int .i64 0)) (.int .i64 1)) fun d6 =>
   og (isKey true d2 && true && true) <|
   ob (sgMap sg i4) fun m7 =>
   og (m7.1 == true) <|
   ob (dBin .add t29 (.int .i64 1)) fun d8 =>
   P_tree_scope_with_8h R t0i t27 t28 d8 (sg.set i4 (.map true (mSet m7.2 d2 d6))))
   (some ([], sg))) := headP_of [] (by kernel_rfl)
theorem fix_tree_scope_with (x0 : Nat) (x1 : DV) (x2 : DV) (sg : List SObj) : (run cfg).r F_tree_scope_with [(.undef, (.ptr x0 0)), (x1, .val), (x2, .val)] sg = P_tree_scope_with (run cfg) x0 x1 x2 sg :=
  (fix_raw (C := cfg) (f := F_tree_scope_with) (s := sig_tree_scope_with) (fn := Try.f75) (c := code_tree_scope_with) (by kernel_rfl) Try.func75 (by kernel_rfl)).trans (by kernel_rfl)
theorem call_tree_scope_with (x0 : Nat) (x1 : DV) (x2 : DV) (sg : List SObj) {q : List DV × List SObj} (h : P_tree_scope_with (run cfg) x0 x1 x2 sg = some q) : (run cfg).r F_tree_scope_with [(.undef, (.ptr x0 0)), (x1, .val), (x2, .val)] sg = some q := (fix_tree_scope_with x0 x1 x2 sg).trans h

noncomputable def code_slices_Index__string_string : Code := Try.f78.body.getD .skip
noncomputable def P_slices_Index__string_string (R : Orc) (x0 : DV) (x1 : DV) : Option DV := evP cfg R fl_slices_Index__string_string (retP cfg.P Try.f78) [] code_slices_Index__string_string (initSt Try.f78 [(x0, .val), (x1, .val)] [])
noncomputable def P_slices_Index__string_string_2h (R : Orc) (t0 : DV) (t1 : DV) (t7 : DV) (t8 : DV) : Option DV := headP cfg R fl_slices_Index__string_string (retP cfg.P Try.f78) [true, false, true, false] code_slices_Index__string_string ⟨spread .undef 19 0 [(0, t0), (1, t1), (7, t7), (8, t8)], spread .val 19 0 [], spread none 19 0 [], []⟩
theorem eq_slices_Index__string_string (R : Orc) (x0 : DV) (x1 : DV) : P_slices_Index__string_string R x0 x1 =
  (ob (dLen x0) fun d1 =>
  P_slices_Index__string_string_2h R x0 x1 d1 (.int .i64 0)) := evP_of [] (by kernel_rfl)
theorem eq_slices_Index__string_string_2h (R : Orc) (t0 : DV) (t1 : DV) (t7 : DV) (t8 : DV) : P_slices_Index__string_string_2h R t0 t1 t7 t8 =
  (ob (dBin .lss t8 t7) fun d1 =>
  oif d1
   (ob (dIdx 1 t0 t8) fun d2 =>
   og (isLeaf d2) <|
   ob (dBin .eql t1 d2) fun d3 =>
   oif d3
    (some t8)
    (ob (dBin .add t8 (.int .i64 1)) fun d4 =>
    P_slices_Index__string_string_2h R t0 t1 t7 d4))
   (some (.int .i64 (-1)))) := headP_of [] (by kernel_rfl)
theorem fix_slices_Index__string_string (x0 : DV) (x1 : DV) : (run cfg).p F_slices_Index__string_string [x0, x1] = P_slices_Index__string_string (run cfg) x0 x1 :=
  (fix_pure (C := cfg) (f := F_slices_Index__string_string) (fn := Try.f78) (c := code_slices_Index__string_string) (by kernel_rfl) Try.func78 (by kernel_rfl)).trans (by kernel_rfl)
theorem call_slices_Index__string_string (x0 : DV) (x1 : DV) {d : DV} (h : P_slices_Index__string_string (run cfg) x0 x1 = some d) : (run cfg).p F_slices_Index__string_string [x0, x1] = some d := (fix_slices_Index__string_string x0 x1).trans h

noncomputable def code_typ_right : Code := Try.f80.body.getD .skip
noncomputable def P_typ_right (R : Orc) (x0 : DV) : Option DV := evP cfg R fl_typ_right (retP cfg.P Try.f80) [] code_typ_right (initSt Try.f80 [(x0, .val)] [])
noncomputable def P_typ_right_9h (R : Orc) (t33 : DV) (t34 : DV) (t35 : DV) : Option DV := headP cfg R fl_typ_right (retP cfg.P Try.f80) [true, true, true, true, false, true, false] code_typ_right ⟨spread .undef 43 0 [(33, t33), (34, t34), (35, t35)], spread .val 43 0 [], spread none 43 0 [], []⟩
theorem eq_typ_right (R : Orc) (x0 : DV) : P_typ_right R x0 =
  (og (isAggN 3 x0) <|
  ob (R.p F_typ_arity [(proj 0 x0)]) fun d1 =>
  ob (dBin .lss d1 (.int .i64 0)) fun d2 =>
  ogd d2
   (some (.bool false))
   (ob (dLen (proj 2 x0)) fun d3 =>
   ob (dBin .neq d3 d1) fun d4 =>
   oif d4
    (some (.bool false))
    (ob (dBin .eql (proj 0 x0) (.int .i64 6)) fun d5 =>
    oif d5
     (ob (dBin .geq (proj 1 x0) (.int .i64 0)) fun d6 =>
     ogd d6
      (ob (dBin .leq (proj 1 x0) (.int .i64 1048576)) fun d7 =>
      some d7)
      (some (.bool false))
      none)
     (ob (dBin .neq (proj 1 x0) (.int .i64 0)) fun d8 =>
     oif d8
      (some (.bool false))
      (ob (dLen (proj 2 x0)) fun d9 =>
      P_typ_right_9h R (proj 2 x0) d9 (.int .i64 0)))))
   none) := evP_of [] (by kernel_rfl)
theorem eq_typ_right_9h (R : Orc) (t33 : DV) (t34 : DV) (t35 : DV) : P_typ_right_9h R t33 t34 t35 =
  (ob (dBin .lss t35 t34) fun d1 =>
  oif d1
   (ob (dIdx 3 t33 t35) fun d2 =>
   ob (R.p F_typ_right [(.agg [(proj 0 d2), (proj 1 d2), (proj 2 d2)])]) fun d3 =>
   ob (dUn .not d3) fun d4 =>
   oif d4
    (some (.bool false))
    (ob (dBin .add t35 (.int .i64 1)) fun d5 =>
    P_typ_right_9h R t33 t34 d5))
   (some (.bool true))) := headP_of [] (by kernel_rfl)
theorem fix_typ_right (x0 : DV) : (run cfg).p F_typ_right [x0] = P_typ_right (run cfg) x0 :=
  (fix_pure (C := cfg) (f := F_typ_right) (fn := Try.f80) (c := code_typ_right) (by kernel_rfl) Try.func80 (by kernel_rfl)).trans (by kernel_rfl)
theorem call_typ_right (x0 : DV) {d : DV} (h : P_typ_right (run cfg) x0 = some d) : (run cfg).p F_typ_right [x0] = some d := (fix_typ_right x0).trans h

noncomputable def code_typ_without : Code := Try.f81.body.getD .skip
noncomputable def P_typ_without (R : Orc) (x0 : DV) (x1 : DV) : Option DV := evP cfg R fl_typ_without (retP cfg.P Try.f81) [] code_typ_without (initSt Try.f81 [(x0, .val), (x1, .val)] [])
noncomputable def P_typ_without_4h (R : Orc) (t1 : DV) (t12 : DV) (t13 : DV) (t14 : DV) : Option DV := headP cfg R fl_typ_without (retP cfg.P Try.f81) [true, true, false, true, false] code_typ_without ⟨spread .undef 23 0 [(1, t1), (12, t12), (13, t13), (14, t14)], spread .val 23 0 [], spread none 23 0 [], []⟩
theorem eq_typ_without (R : Orc) (x0 : DV) (x1 : DV) : P_typ_without R x0 x1 =
  (og (isAggN 3 x0) <|
  ob (dBin .eql (proj 0 x0) x1) fun d1 =>
  oif d1
   (some (.bool false))
   (ob (dLen (proj 2 x0)) fun d2 =>
   P_typ_without_4h R x1 (proj 2 x0) d2 (.int .i64 0))) := evP_of [] (by kernel_rfl)
theorem eq_typ_without_4h (R : Orc) (t1 : DV) (t12 : DV) (t13 : DV) (t14 : DV) : P_typ_without_4h R t1 t12 t13 t14 =
  (ob (dBin .lss t14 t13) fun d1 =>
  oif d1
   (ob (dIdx 3 t12 t14) fun d2 =>
   ob (R.p F_typ_without [(.agg [(proj 0 d2), (proj 1 d2), (proj 2 d2)]), t1]) fun d3 =>
   ob (dUn .not d3) fun d4 =>
   oif d4
    (some (.bool false))
    (ob (dBin .add t14 (.int .i64 1)) fun d5 =>
    P_typ_without_4h R t1 t12 t13 d5))
   (some (.bool true))) := headP_of [] (by kernel_rfl)
theorem fix_typ_without (x0 : DV) (x1 : DV) : (run cfg).p F_typ_without [x0, x1] = P_typ_without (run cfg) x0 x1 :=
  (fix_pure (C := cfg) (f := F_typ_without) (fn := Try.f81) (c := code_typ_without) (by kernel_rfl) Try.func81 (by kernel_rfl)).trans (by kernel_rfl)
theorem call_typ_without (x0 : DV) (x1 : DV) {d : DV} (h : P_typ_without (run cfg) x0 x1 = some d) : (run cfg).p F_typ_without [x0, x1] = some d := (fix_typ_without x0 x1).trans h

noncomputable def code_typ_arity : Code := Try.f95.body.getD .skip
noncomputable def P_typ_arity (R : Orc) (x0 : DV) : Option DV := evP cfg R fl_typ_arity (retP cfg.P Try.f95) [] code_typ_arity (initSt Try.f95 [(x0, .val)] [])
theorem eq_typ_arity (R : Orc) (x0 : DV) : P_typ_arity R x0 =
  (ob (dBin .eql x0 (.int .i64 1)) fun d1 =>
  oif d1
   (some (.int .i64 0))
   (ob (dBin .eql x0 (.int .i64 2)) fun d2 =>
   oif d2
    (some (.int .i64 0))
    (ob (dBin .eql x0 (.int .i64 3)) fun d3 =>
    oif d3
     (some (.int .i64 0))
     (ob (dBin .eql x0 (.int .i64 4)) fun d4 =>
     oif d4
      (some (.int .i64 0))
      (ob (dBin .eql x0 (.int .i64 5)) fun d5 =>
      oif d5
       (some (.int .i64 0))
       (ob (dBin .eql x0 (.int .i64 6)) fun d6 =>
       oif d6
        (some (.int .i64 0))
        (ob (dBin .eql x0 (.int .i64 8)) fun d7 =>
        oif d7
         (some (.int .i64 1))
         (ob (dBin .eql x0 (.int .i64 7)) fun d8 =>
         oif d8
          (some (.int .i64 2))
          (ob (dBin .eql x0 (.int .i64 9)) fun d9 =>
          oif d9
           (some (.int .i64 2))
           (some (.int .i64 (-1)))))))))))) := evP_of [] (by kernel_rfl)
theorem fix_typ_arity (x0 : DV) : (run cfg).p F_typ_arity [x0] = P_typ_arity (run cfg) x0 :=
  (fix_pure (C := cfg) (f := F_typ_arity) (fn := Try.f95) (c := code_typ_arity) (by kernel_rfl) Try.func95 (by kernel_rfl)).trans (by kernel_rfl)
theorem call_typ_arity (x0 : DV) {d : DV} (h : P_typ_arity (run cfg) x0 = some d) : (run cfg).p F_typ_arity [x0] = some d := (fix_typ_arity x0).trans h

end Go.Su

/-
  All equations.
-/
namespace Go.Su
end Go.Su
