/-
  Parts of the proof, merged: G2, G3, G4, G5, G6, T0.
-/
import Derived.Test.YtldedkgnmpmaoaaU4
set_option linter.unusedVariables false
set_option linter.unusedSimpArgs false
/-
  Equations of the program's functions: by program.
-/
namespace Go.Su
open Go.Proofs
set_option linter.unusedVariables false

noncomputable def code_tree_CheckPat : Code := Try.f11.body.getD .skip
noncomputable def P_tree_CheckPat (R : Orc) (x0 : DV) : Option DV := evP cfg R fl_tree_CheckPat (retP cfg.P Try.f11) [] code_tree_CheckPat (initSt Try.f11 [(x0, .val)] [])
noncomputable def P_tree_CheckPat_r0 (R : Orc) (t0 : DV) (t6 : DV) (sg : List SObj) : Option DV := evP cfg R fl_tree_CheckPat (retP cfg.P Try.f11) [true, true, false, true, false] code_tree_CheckPat ⟨spread .undef 32 0 [(0, t0), (4, (.tup [])), (6, t6), (8, (.tup [])), (9, (.tup [])), (10, (.tup [])), (11, (.tup [])), (12, (.tup [])), (13, (.tup [])), (14, (.tup [])), (15, (.tup [])), (16, (.tup [])), (17, (.tup [])), (18, (.tup [])), (19, (.tup [])), (20, (.tup [])), (21, (.tup [])), (22, (.tup [])), (23, (.tup [])), (24, (.tup [])), (25, (.tup [])), (26, (.tup [])), (27, (.tup [])), (28, (.tup [])), (29, (.tup [])), (30, (.tup [])), (31, (.tup []))], spread .val 32 0 [(1, (.ptr 0 0)), (2, (.ptr 1 0)), (3, (.ptr 3 0)), (5, (.map 2)), (7, (.fn 57 [(4, 0)]))], spread none 32 0 [], sg⟩
noncomputable def rcode_tree_CheckPat_r0 : Code := match (sub [true, true, false, true, false] code_tree_CheckPat []).1 with
  | .rangeFunc _ _ a b => .seq a b
  | c => c
noncomputable def X_tree_CheckPat_r0 (R : Orc) (t0 : DV) (t6 : DV) (o : Out) (sg : List SObj) : Option DV := konP cfg R fl_tree_CheckPat (retP cfg.P Try.f11) [true, true, false, true, false] code_tree_CheckPat o (outerSt ⟨spread .undef 32 0 [(0, t0), (4, (.tup [])), (6, t6), (8, (.tup [])), (9, (.tup [])), (10, (.tup [])), (11, (.tup [])), (12, (.tup [])), (13, (.tup [])), (14, (.tup [])), (15, (.tup [])), (16, (.tup [])), (17, (.tup [])), (18, (.tup [])), (19, (.tup [])), (20, (.tup [])), (21, (.tup [])), (22, (.tup [])), (23, (.tup [])), (24, (.tup [])), (25, (.tup [])), (26, (.tup [])), (27, (.tup [])), (28, (.tup [])), (29, (.tup [])), (30, (.tup [])), (31, (.tup []))], spread .val 32 0 [(1, (.ptr 0 0)), (2, (.ptr 1 0)), (3, (.ptr 3 0)), (5, (.map 2)), (7, (.fn 57 [(4, 0)]))], spread none 32 0 [], []⟩ sg)
noncomputable def B_tree_CheckPat_r0 (R : Orc) (t0 : DV) (t6 : DV) (I : List SObj → Option DV) (x : DV) (sg : List SObj) : Option DV := evP cfg R fl_tree_CheckPat (kr I (X_tree_CheckPat_r0 R t0 t6)) [] rcode_tree_CheckPat_r0 ⟨spread .undef 32 0 [(8, x)], spread .val 32 0 [(2, (.ptr 1 0)), (3, (.ptr 3 0))], spread none 32 0 [], sg⟩
noncomputable def I_tree_CheckPat_r0 (R : Orc) (t0 : DV) (t6 : DV) : List DV → List SObj → Option DV := foldIt (fun x I sg => B_tree_CheckPat_r0 R t0 t6 I x sg) (X_tree_CheckPat_r0 R t0 t6 .normal)
noncomputable def P_tree_CheckPat_6 (R : Orc) (t0 : DV) (t6 : DV) (I : List SObj → Option DV) (b4 : DV) (sg : List SObj) : Option DV := evP cfg R fl_tree_CheckPat (kr I (X_tree_CheckPat_r0 R t0 t6)) [true, false, true] rcode_tree_CheckPat_r0 ⟨spread .undef 32 0 [], spread .val 32 0 [(3, (.ptr 3 0)), (4, (.loc 4 0))], spread none 32 0 [(4, some [((proj 0 b4), .val), ((proj 1 b4), .val), ((proj 2 b4), .val), ((proj 3 b4), .val), ((proj 4 b4), .val), ((proj 5 b4), .val), ((proj 6 b4), .val)])], sg⟩
theorem eq_tree_CheckPat (R : Orc) (x0 : DV) : P_tree_CheckPat R x0 =
  (og (isAggN 7 x0) <|
  P_tree_CheckPat_r0 R x0 (.agg [(proj 0 x0), (proj 1 x0), (proj 2 x0), (proj 3 x0), (proj 4 x0), (proj 5 x0), (proj 6 x0)]) [SObj.box [((proj 0 x0), .val), ((proj 1 x0), .val), ((proj 2 x0), .val), ((proj 3 x0), .val), ((proj 4 x0), .val), ((proj 5 x0), .val), ((proj 6 x0), .val)], SObj.box [((.int .i64 0), .val)], .map true [], SObj.box [(.undef, (.map 2))], SObj.box [((proj 0 x0), .val), ((proj 1 x0), .val), ((proj 2 x0), .val), ((proj 3 x0), .val), ((proj 4 x0), .val), ((proj 5 x0), .val), ((proj 6 x0), .val)]]) := evP_of [6] (by kernel_rfl)
theorem eq_tree_CheckPat_r0 (R : Orc) (t0 : DV) (t6 : DV) (sg : List SObj) : P_tree_CheckPat_r0 R t0 t6 sg =
  ob (sgBox sg 4) fun cs => ob (allDat cs) fun cd => ob (flatD 7 6 cd) fun ds => I_tree_CheckPat_r0 R t0 t6 ds (sg.set 4 (.arr 1 [])) :=
  (rangeP2 (t := 7) (f := 57) (i := 4) (q := 8) (it := flatD 7 6) (by kernel_rfl) (by kernel_rfl) (by kernel_rfl) (by kernel_rfl)).trans (by kernel_rfl)
theorem I_tree_CheckPat_r0_nil (R : Orc) (t0 : DV) (t6 : DV) (sg : List SObj) : I_tree_CheckPat_r0 R t0 t6 [] sg = X_tree_CheckPat_r0 R t0 t6 .normal sg := rfl
theorem I_tree_CheckPat_r0_cons (R : Orc) (t0 : DV) (t6 : DV) (x : DV) (ds : List DV) (sg : List SObj) : I_tree_CheckPat_r0 R t0 t6 (x :: ds) sg = B_tree_CheckPat_r0 R t0 t6 (I_tree_CheckPat_r0 R t0 t6 ds) x sg := rfl
theorem eq_B_tree_CheckPat_r0 (R : Orc) (t0 : DV) (t6 : DV) (I : List SObj → Option DV) (x : DV) (sg : List SObj) : B_tree_CheckPat_r0 R t0 t6 I x sg =
  (og (isAggN 7 x) <|
  ob (R.p F_tree_onePat [(.agg [(proj 0 x), (proj 1 x), (proj 2 x), (proj 3 x), (proj 4 x), (proj 5 x), (proj 6 x)])]) fun d1 =>
  ob (dUn .not d1) fun d2 =>
  ogd d2
   (ob (sgBox sg 1) fun c3 =>
   ob (c3[0]?) fun u4 =>
   X_tree_CheckPat_r0 R t0 t6 .ret (sg.set 1 (SObj.box (c3.set 0 ((.int .i64 1), .val)))))
   (ob (dBin .eql (proj 0 x) (.int .i64 2)) fun d5 =>
   ogd d5
    (ob (sgBox sg 3) fun c6 =>
    ob (cellMap c6 0) fun i7 =>
    og (isKey true (proj 3 x) && true) <|
    ob (sgMap sg i7) fun m8 =>
    og (m8.1 == true) <|
    ob (dBin .gtr ((mGet m8.2 (proj 3 x)).getD (.int .i64 0)) (.int .i64 0)) fun d9 =>
    oif d9
     (ob (sgBox sg 1) fun c10 =>
     ob (c10[0]?) fun u11 =>
     X_tree_CheckPat_r0 R t0 t6 .ret (sg.set 1 (SObj.box (c10.set 0 ((.int .i64 1), .val)))))
     (P_tree_CheckPat_6 R t0 t6 I x sg))
    (P_tree_CheckPat_6 R t0 t6 I x sg)
    none)
   none) := evP_of [6] (by kernel_rfl)
theorem eq_X_tree_CheckPat_r0_normal (R : Orc) (t0 : DV) (t6 : DV) (sg : List SObj) : X_tree_CheckPat_r0 R t0 t6 .normal sg =
  (ob (sgBox sg 1) fun c1 =>
  ob (c1[0]?) fun u2 =>
  ret1 (ob (sgBox (sg.set 1 (SObj.box (c1.set 0 ((.int .i64 0), .val)))) 1) fun c => oneCell (sg.set 1 (SObj.box (c1.set 0 ((.int .i64 0), .val)))) c)) := konP_of [6] (by kernel_rfl)
theorem eq_X_tree_CheckPat_r0_ret (R : Orc) (t0 : DV) (t6 : DV) (sg : List SObj) : X_tree_CheckPat_r0 R t0 t6 .ret sg =
  (ret1 (ob (sgBox sg 1) fun c => oneCell sg c)) := konP_of [6] (by kernel_rfl)
theorem eq_tree_CheckPat_6 (R : Orc) (t0 : DV) (t6 : DV) (I : List SObj → Option DV) (b4 : DV) (sg : List SObj) : P_tree_CheckPat_6 R t0 t6 I b4 sg =
  (ob (dBin .eql (proj 0 b4) (.int .i64 2)) fun d1 =>
  oif d1
   (ob (sgBox sg 3) fun c2 =>
   ob (cellMap c2 0) fun i3 =>
   og (isKey true (proj 3 b4) && true) <|
   ob (sgMap sg i3) fun m4 =>
   og (m4.1 == true) <|
   ob (dBin .add ((mGet m4.2 (proj 3 b4)).getD (.int .i64 0)) (.int .i64 1)) fun d5 =>
   og (isKey true (proj 3 b4) && true && true) <|
   ob (sgMap sg i3) fun m6 =>
   og (m6.1 == true) <|
   I (sg.set i3 (.map true (mSet m6.2 (proj 3 b4) d5))))
   (I sg)) := evP_of [6] (by kernel_rfl)
theorem fix_tree_CheckPat (x0 : DV) : (run cfg).p F_tree_CheckPat [x0] = P_tree_CheckPat (run cfg) x0 :=
  (fix_pure (C := cfg) (f := F_tree_CheckPat) (fn := Try.f11) (c := code_tree_CheckPat) (by kernel_rfl) Try.func11 (by kernel_rfl)).trans (by kernel_rfl)
theorem call_tree_CheckPat (x0 : DV) {d : DV} (h : P_tree_CheckPat (run cfg) x0 = some d) : (run cfg).p F_tree_CheckPat [x0] = some d := (fix_tree_CheckPat x0).trans h

noncomputable def code_l05_wakes : Code := Try.f12.body.getD .skip
noncomputable def P_l05_wakes (R : Orc) : Option DV := evP cfg R fl_l05_wakes (retP cfg.P Try.f12) [] code_l05_wakes (initSt Try.f12 [] [])
noncomputable def P_l05_wakes_3 (R : Orc) (t3 : DV) (b1_0 : DV) (b1_1 : DV) (b1_2 : DV) (b1_3 : DV) (b1_4 : DV) (b1_5 : DV) (b1_6 : DV) (b1_7 : DV) (b1_8 : DV) (b1_9 : DV) (b1_10 : DV) (b1_11 : DV) (b1_12 : DV) (b1_13 : DV) (b1_14 : DV) (b1_15 : DV) (b2 : DV) : Option DV := evP cfg R fl_l05_wakes (retP cfg.P Try.f12) [true, true, true] code_l05_wakes ⟨spread .undef 72 0 [(3, t3)], spread .val 72 0 [(1, (.loc 1 0)), (2, (.loc 2 0))], spread none 72 0 [(1, some [(b1_0, .val), (b1_1, .val), (b1_2, .val), (b1_3, .val), (b1_4, .val), (b1_5, .val), (b1_6, .val), (b1_7, .val), (b1_8, .val), (b1_9, .val), (b1_10, .val), (b1_11, .val), (b1_12, .val), (b1_13, .val), (b1_14, .val), (b1_15, .val)]), (2, some [((proj 0 b2), .val), ((proj 1 b2), .val), ((proj 2 b2), .val), ((proj 3 b2), .val), ((proj 4 b2), .val), ((proj 5 b2), .val), ((proj 6 b2), .val), ((proj 7 b2), .val), ((proj 8 b2), .val), ((proj 9 b2), .val), ((proj 10 b2), .val), ((proj 11 b2), .val), ((proj 12 b2), .val), ((proj 13 b2), .val), ((proj 14 b2), .val), ((proj 15 b2), .val)])], []⟩
theorem eq_l05_wakes (R : Orc) : P_l05_wakes R =
  (ob (R.p F_l05_name [(.str ⟨#[120]⟩)]) fun d1 =>
  ob (R.p F_l05_name [(.str ⟨#[121]⟩)]) fun d2 =>
  og (isAggN 16 d1) <|
  og (isAggN 16 d2) <|
  ob (R.p F_tree_With [(.agg [(.int .i64 9), (.int .i64 0), (.int .i64 0), (.str ⟨#[120]⟩), (.str ⟨#[]⟩), (.int .i64 0), (.str ⟨#[]⟩), (.int .i64 0), (.int .i64 5), (.int .i64 0), (.list 3 []), (.int .i64 0), (.int .i64 0), (.list 3 []), (.list 7 []), (.list 16 [(.agg [(.int .i64 6), (.int .i64 0), (.int .i64 0), (.str ⟨#[]⟩), (.str ⟨#[]⟩), (.int .i64 0), (.str ⟨#[]⟩), (.int .i64 0), (.int .i64 0), (.int .i64 0), (.list 3 []), (.int .i64 0), (.int .i64 0), (.list 3 []), (.list 7 []), (.list 16 [d1, d2])])])]), (.list 3 [(.agg [(.int .i64 1), (.int .i64 0), (.list 3 [])])])]) fun d3 =>
  ob (dExt 0 d3) fun d4 =>
  ob (dExt 1 d3) fun d5 =>
  og (isAggN 16 d4) <|
  P_l05_wakes_3 R d5 (.int .i64 9) (.int .i64 0) (.int .i64 0) (.str ⟨#[120]⟩) (.str ⟨#[]⟩) (.int .i64 0) (.str ⟨#[]⟩) (.int .i64 0) (.int .i64 5) (.int .i64 0) (.list 3 []) (.int .i64 0) (.int .i64 0) (.list 3 []) (.list 7 []) (.list 16 [(.agg [(.int .i64 6), (.int .i64 0), (.int .i64 0), (.str ⟨#[]⟩), (.str ⟨#[]⟩), (.int .i64 0), (.str ⟨#[]⟩), (.int .i64 0), (.int .i64 0), (.int .i64 0), (.list 3 []), (.int .i64 0), (.int .i64 0), (.list 3 []), (.list 7 []), (.list 16 [d1, d2])])]) d4) := evP_of [3] (by kernel_rfl)
set_option maxRecDepth 100000 in
theorem eq_l05_wakes_3 (R : Orc) (t3 : DV) (b1_0 : DV) (b1_1 : DV) (b1_2 : DV) (b1_3 : DV) (b1_4 : DV) (b1_5 : DV) (b1_6 : DV) (b1_7 : DV) (b1_8 : DV) (b1_9 : DV) (b1_10 : DV) (b1_11 : DV) (b1_12 : DV) (b1_13 : DV) (b1_14 : DV) (b1_15 : DV) (b2 : DV) : P_l05_wakes_3 R t3 b1_0 b1_1 b1_2 b1_3 b1_4 b1_5 b1_6 b1_7 b1_8 b1_9 b1_10 b1_11 b1_12 b1_13 b1_14 b1_15 b2 =
  (ob (R.p F_tree_Check [(.agg [b1_0, b1_1, b1_2, b1_3, b1_4, b1_5, b1_6, b1_7, b1_8, b1_9, b1_10, b1_11, b1_12, b1_13, b1_14, b1_15])]) fun d1 =>
  ob (dBin .eql d1 (.int .i64 0)) fun d2 =>
  ogd d2
   (ob (R.p F_tree_Check [(.agg [(.int .i64 0), (.int .i64 0), (.int .i64 0), (.str ⟨#[]⟩), (.str ⟨#[]⟩), (.int .i64 0), (.str ⟨#[]⟩), (.int .i64 0), (.int .i64 0), (.int .i64 0), (.list 3 []), (.int .i64 0), (.int .i64 0), (.list 3 []), (.list 7 []), (.list 16 [])])]) fun d3 =>
   ob (dBin .eql d3 (.int .i64 1)) fun d4 =>
   ogd d4
    (ob (R.p F_tree_Size [(.agg [b1_0, b1_1, b1_2, b1_3, b1_4, b1_5, b1_6, b1_7, b1_8, b1_9, b1_10, b1_11, b1_12, b1_13, b1_14, b1_15])]) fun d5 =>
    ob (dBin .eql d5 (.int .i64 4)) fun d6 =>
    ogd d6
     (ob (R.p F_tree_Depth [(.agg [b1_0, b1_1, b1_2, b1_3, b1_4, b1_5, b1_6, b1_7, b1_8, b1_9, b1_10, b1_11, b1_12, b1_13, b1_14, b1_15])]) fun d7 =>
     ob (dBin .eql d7 (.int .i64 3)) fun d8 =>
     ogd d8
      (ob (R.p F_tree_Free [(.agg [b1_0, b1_1, b1_2, b1_3, b1_4, b1_5, b1_6, b1_7, b1_8, b1_9, b1_10, b1_11, b1_12, b1_13, b1_14, b1_15])]) fun d9 =>
      ob (R.p F_keep_Texts [d9, (.list 1 [(.str ⟨#[121]⟩)])]) fun d10 =>
      ogd d10
       (ob (R.p F_tree_Anns [(.agg [b1_0, b1_1, b1_2, b1_3, b1_4, b1_5, b1_6, b1_7, b1_8, b1_9, b1_10, b1_11, b1_12, b1_13, b1_14, b1_15])]) fun d11 =>
       ob (dLen d11) fun d12 =>
       ob (dBin .eql d12 (.int .i64 1)) fun d13 =>
       ogd d13
        (ob (dBin .eql t3 (.int .i64 0)) fun d14 =>
        ogd d14
         (ob (dBin .eql (proj 8 b2) (.int .i64 1)) fun d15 =>
         ogd d15
          (ob (R.p F_tree_Value [(.agg [b1_0, b1_1, b1_2, b1_3, b1_4, b1_5, b1_6, b1_7, b1_8, b1_9, b1_10, b1_11, b1_12, b1_13, b1_14, b1_15])]) fun d16 =>
          ogd d16
           (ob (R.p F_tree_Same [(.agg [b1_0, b1_1, b1_2, b1_3, b1_4, b1_5, b1_6, b1_7, b1_8, b1_9, b1_10, b1_11, b1_12, b1_13, b1_14, b1_15]), (.agg [b1_0, b1_1, b1_2, b1_3, b1_4, b1_5, b1_6, b1_7, b1_8, b1_9, b1_10, b1_11, b1_12, b1_13, b1_14, b1_15])]) fun d17 =>
           ogd d17
            (ob (R.p F_tree_CheckPat [(.agg [(.int .i64 1), (.int .i64 0), (.int .i64 0), (.str ⟨#[]⟩), (.int .i64 0), (.str ⟨#[]⟩), (.list 7 [])])]) fun d18 =>
            ob (dBin .eql d18 (.int .i64 0)) fun d19 =>
            some d19)
            (some (.bool false))
            none)
           (some (.bool false))
           none)
          (some (.bool false))
          none)
         (some (.bool false))
         none)
        (some (.bool false))
        none)
       (some (.bool false))
       none)
      (some (.bool false))
      none)
     (some (.bool false))
     none)
    (some (.bool false))
    none)
   (some (.bool false))
   none) := evP_of [3] (by kernel_rfl)
theorem fix_l05_wakes : (run cfg).p F_l05_wakes [] = P_l05_wakes (run cfg) :=
  (fix_pure (C := cfg) (f := F_l05_wakes) (fn := Try.f12) (c := code_l05_wakes) (by kernel_rfl) Try.func12 (by kernel_rfl)).trans (by kernel_rfl)
theorem call_l05_wakes {d : DV} (h : P_l05_wakes (run cfg) = some d) : (run cfg).p F_l05_wakes [] = some d := (fix_l05_wakes).trans h

noncomputable def code_l05_Heavy : Code := Try.f13.body.getD .skip
noncomputable def P_l05_Heavy (R : Orc) (x0 : DV) : Option DV := evP cfg R fl_l05_Heavy (retP cfg.P Try.f13) [] code_l05_Heavy (initSt Try.f13 [(x0, .val)] [])
noncomputable def P_l05_Heavy_3h (R : Orc) (t0 : DV) (t3 : DV) (t4 : DV) : Option DV := headP cfg R fl_l05_Heavy (retP cfg.P Try.f13) [true, true, false, true, false] code_l05_Heavy ⟨spread .undef 19 0 [(0, t0), (3, t3), (4, t4)], spread .val 19 0 [], spread none 19 0 [], []⟩
theorem eq_l05_Heavy (R : Orc) (x0 : DV) : P_l05_Heavy R x0 =
  (P_l05_Heavy_3h R x0 (.int .i64 0) (.int .i64 0)) := evP_of [] (by kernel_rfl)
theorem eq_l05_Heavy_3h (R : Orc) (t0 : DV) (t3 : DV) (t4 : DV) : P_l05_Heavy_3h R t0 t3 t4 =
  (ob (dLen t0) fun d1 =>
  ob (dBin .lss t4 d1) fun d2 =>
  oif d2
   (ob (dIdx 16 t0 t4) fun d3 =>
   ob (R.p F_l05_count [(.agg [(proj 0 d3), (proj 1 d3), (proj 2 d3), (proj 3 d3), (proj 4 d3), (proj 5 d3), (proj 6 d3), (proj 7 d3), (proj 8 d3), (proj 9 d3), (proj 10 d3), (proj 11 d3), (proj 12 d3), (proj 13 d3), (proj 14 d3), (proj 15 d3)]), t3]) fun d4 =>
   ob (dBin .add t4 (.int .i64 1)) fun d5 =>
   P_l05_Heavy_3h R t0 d4 d5)
   (ob (dBin .gtr t3 (.int .i64 400)) fun d6 =>
   some d6)) := headP_of [] (by kernel_rfl)
theorem fix_l05_Heavy (x0 : DV) : (run cfg).p F_l05_Heavy [x0] = P_l05_Heavy (run cfg) x0 :=
  (fix_pure (C := cfg) (f := F_l05_Heavy) (fn := Try.f13) (c := code_l05_Heavy) (by kernel_rfl) Try.func13 (by kernel_rfl)).trans (by kernel_rfl)
theorem call_l05_Heavy (x0 : DV) {d : DV} (h : P_l05_Heavy (run cfg) x0 = some d) : (run cfg).p F_l05_Heavy [x0] = some d := (fix_l05_Heavy x0).trans h

noncomputable def code_r05_Right : Code := Try.f14.body.getD .skip
noncomputable def P_r05_Right (R : Orc) (x0 : DV) : Option DV := evP cfg R fl_r05_Right (retP cfg.P Try.f14) [] code_r05_Right (initSt Try.f14 [(x0, .val)] [])
noncomputable def P_r05_Right_4h (R : Orc) (t3 : DV) (b1 : DV) : Option DV := headP cfg R fl_r05_Right (retP cfg.P Try.f14) [true, true, false, true, false] code_r05_Right ⟨spread .undef 36 0 [(3, t3)], spread .val 36 0 [(1, (.loc 1 0))], spread none 36 0 [(1, some [((proj 0 b1), .val), ((proj 1 b1), .val), ((proj 2 b1), .val), ((proj 3 b1), .val), ((proj 4 b1), .val), ((proj 5 b1), .val), ((proj 6 b1), .val), ((proj 7 b1), .val), ((proj 8 b1), .val), ((proj 9 b1), .val), ((proj 10 b1), .val), ((proj 11 b1), .val), ((proj 12 b1), .val), ((proj 13 b1), .val), ((proj 14 b1), .val), ((proj 15 b1), .val)])], []⟩
noncomputable def P_r05_Right_9h (R : Orc) (t4 : DV) (b1 : DV) : Option DV := headP cfg R fl_r05_Right (retP cfg.P Try.f14) [true, true, true, false, true, false] code_r05_Right ⟨spread .undef 36 0 [(4, t4)], spread .val 36 0 [(1, (.loc 1 0))], spread none 36 0 [(1, some [((proj 0 b1), .val), ((proj 1 b1), .val), ((proj 2 b1), .val), ((proj 3 b1), .val), ((proj 4 b1), .val), ((proj 5 b1), .val), ((proj 6 b1), .val), ((proj 7 b1), .val), ((proj 8 b1), .val), ((proj 9 b1), .val), ((proj 10 b1), .val), ((proj 11 b1), .val), ((proj 12 b1), .val), ((proj 13 b1), .val), ((proj 14 b1), .val), ((proj 15 b1), .val)])], []⟩
theorem eq_r05_Right (R : Orc) (x0 : DV) : P_r05_Right R x0 =
  (og (isAggN 16 x0) <|
  ob (R.p F_r05_own [(.agg [(proj 0 x0), (proj 1 x0), (proj 2 x0), (proj 3 x0), (proj 4 x0), (proj 5 x0), (proj 6 x0), (proj 7 x0), (proj 8 x0), (proj 9 x0), (proj 10 x0), (proj 11 x0), (proj 12 x0), (proj 13 x0), (proj 14 x0), (proj 15 x0)])]) fun d1 =>
  ob (dUn .not d1) fun d2 =>
  oif d2
   (some (.bool false))
   (P_r05_Right_4h R (.int .i64 0) x0)) := evP_of [] (by kernel_rfl)
theorem eq_r05_Right_4h (R : Orc) (t3 : DV) (b1 : DV) : P_r05_Right_4h R t3 b1 =
  (ob (dLen (proj 14 b1)) fun d1 =>
  ob (dBin .lss t3 d1) fun d2 =>
  oif d2
   (ob (dIdx 7 (proj 14 b1) t3) fun d3 =>
   ob (R.p F_r05_RightPat [(.agg [(proj 0 d3), (proj 1 d3), (proj 2 d3), (proj 3 d3), (proj 4 d3), (proj 5 d3), (proj 6 d3)])]) fun d4 =>
   ob (dUn .not d4) fun d5 =>
   oif d5
    (some (.bool false))
    (ob (dBin .add t3 (.int .i64 1)) fun d6 =>
    P_r05_Right_4h R d6 b1))
   (P_r05_Right_9h R (.int .i64 0) b1)) := headP_of [] (by kernel_rfl)
theorem eq_r05_Right_9h (R : Orc) (t4 : DV) (b1 : DV) : P_r05_Right_9h R t4 b1 =
  (ob (dLen (proj 15 b1)) fun d1 =>
  ob (dBin .lss t4 d1) fun d2 =>
  oif d2
   (ob (dIdx 16 (proj 15 b1) t4) fun d3 =>
   ob (R.p F_r05_Right [(.agg [(proj 0 d3), (proj 1 d3), (proj 2 d3), (proj 3 d3), (proj 4 d3), (proj 5 d3), (proj 6 d3), (proj 7 d3), (proj 8 d3), (proj 9 d3), (proj 10 d3), (proj 11 d3), (proj 12 d3), (proj 13 d3), (proj 14 d3), (proj 15 d3)])]) fun d4 =>
   ob (dUn .not d4) fun d5 =>
   oif d5
    (some (.bool false))
    (ob (dBin .add t4 (.int .i64 1)) fun d6 =>
    P_r05_Right_9h R d6 b1))
   (some (.bool true))) := headP_of [] (by kernel_rfl)
theorem fix_r05_Right (x0 : DV) : (run cfg).p F_r05_Right [x0] = P_r05_Right (run cfg) x0 :=
  (fix_pure (C := cfg) (f := F_r05_Right) (fn := Try.f14) (c := code_r05_Right) (by kernel_rfl) Try.func14 (by kernel_rfl)).trans (by kernel_rfl)
theorem call_r05_Right (x0 : DV) {d : DV} (h : P_r05_Right (run cfg) x0 = some d) : (run cfg).p F_r05_Right [x0] = some d := (fix_r05_Right x0).trans h

noncomputable def P_tree_Free (R : Orc) (x0 : DV) : Option DV := evP cfg R fl_tree_Free (keyK cfg R fl_tree_Free kp_tree_Free cut_tree_Free.post (retP cfg.P Try.f15)) [] (seqs cut_tree_Free.pre .skip) (initSt Try.f15 [(x0, .val)] [])
theorem eq_tree_Free (R : Orc) (x0 : DV) : P_tree_Free R x0 =
  (og (isAggN 16 x0) <|
  ob (R.p F_tree_Check [(.agg [(proj 0 x0), (proj 1 x0), (proj 2 x0), (proj 3 x0), (proj 4 x0), (proj 5 x0), (proj 6 x0), (proj 7 x0), (proj 8 x0), (proj 9 x0), (proj 10 x0), (proj 11 x0), (proj 12 x0), (proj 13 x0), (proj 14 x0), (proj 15 x0)])]) fun d1 =>
  ob (dBin .neq d1 (.int .i64 0)) fun d2 =>
  oif d2
   (some (.list 1 []))
   (ob (R.r F_tree_scope_look [(.undef, (.ptr 2 0)), ((.agg [(proj 0 x0), (proj 1 x0), (proj 2 x0), (proj 3 x0), (proj 4 x0), (proj 5 x0), (proj 6 x0), (proj 7 x0), (proj 8 x0), (proj 9 x0), (proj 10 x0), (proj 11 x0), (proj 12 x0), (proj 13 x0), (proj 14 x0), (proj 15 x0)]), .val)] [.map true [], .map true [], SObj.box [(.undef, (.map 0)), (.undef, (.map 1))]]) fun q3 =>
   ob (sgBox q3.2 2) fun c4 =>
   ob (cellMap c4 1) fun i5 =>
   ob (sgMap q3.2 i5) fun m6 =>
   og (m6.1 && true && true) <|
   if m6.2.length ≤ lim then
    (some (sortKeys m6.2))
   else none)) := evP_of [] (by kernel_rfl)
theorem fix_tree_Free (x0 : DV) : (run cfg).p F_tree_Free [x0] = P_tree_Free (run cfg) x0 :=
  (fix_cut (C := cfg) (f := F_tree_Free) (fn := Try.f15) (c := kc_tree_Free) (p := cut_tree_Free) rfl Try.func15 (by kernel_rfl)).trans ((congrArg (fun k => evP cfg (run cfg) fl_tree_Free k [] (seqs cut_tree_Free.pre .skip) (initSt Try.f15 ([x0].map fun d => (d, .val)) [])) (keyK_eq (q := kp_tree_Free) (p := cut_tree_Free) (by kernel_rfl))).trans (by kernel_rfl))
theorem call_tree_Free (x0 : DV) {d : DV} (h : P_tree_Free (run cfg) x0 = some d) : (run cfg).p F_tree_Free [x0] = some d := (fix_tree_Free x0).trans h

noncomputable def code_keep_Int : Code := Try.f16.body.getD .skip
noncomputable def P_keep_Int (R : Orc) (x0 : DV) (x1 : DV) : Option DV := evP cfg R fl_keep_Int (retP cfg.P Try.f16) [] code_keep_Int (initSt Try.f16 [(x0, .val), (x1, .val)] [])
theorem eq_keep_Int (R : Orc) (x0 : DV) (x1 : DV) : P_keep_Int R x0 x1 =
  (ob (dBin .lss x1 (.int .i64 1)) fun d1 =>
  oif d1
   (some (.int .i64 0))
   (ob (dConv .u64 x0) fun d2 =>
   ob (dConv .u64 x1) fun d3 =>
   ob (dBin .rem d2 d3) fun d4 =>
   ob (dConv .i64 d4) fun d5 =>
   some d5)) := evP_of [] (by kernel_rfl)
theorem fix_keep_Int (x0 : DV) (x1 : DV) : (run cfg).p F_keep_Int [x0, x1] = P_keep_Int (run cfg) x0 x1 :=
  (fix_pure (C := cfg) (f := F_keep_Int) (fn := Try.f16) (c := code_keep_Int) (by kernel_rfl) Try.func16 (by kernel_rfl)).trans (by kernel_rfl)
theorem call_keep_Int (x0 : DV) (x1 : DV) {d : DV} (h : P_keep_Int (run cfg) x0 x1 = some d) : (run cfg).p F_keep_Int [x0, x1] = some d := (fix_keep_Int x0 x1).trans h

noncomputable def code_r05_Rise : Code := Try.f17.body.getD .skip
noncomputable def P_r05_Rise (R : Orc) (x0 : DV) (x1 : DV) : Option DV := evP cfg R fl_r05_Rise (retP cfg.P Try.f17) [] code_r05_Rise (initSt Try.f17 [(x0, .val), (x1, .val)] [])
noncomputable def P_r05_Rise_2h (R : Orc) (t0 : DV) (t1 : DV) (t5 : DV) : Option DV := headP cfg R fl_r05_Rise (retP cfg.P Try.f17) [true, true, false, false] code_r05_Rise ⟨spread .undef 47 0 [(0, t0), (1, t1), (5, t5)], spread .val 47 0 [], spread none 47 0 [], []⟩
noncomputable def P_r05_Rise_4 (R : Orc) (t0 : DV) (t1 : DV) (t5 : DV) : Option DV := evP cfg R fl_r05_Rise (retP cfg.P Try.f17) [true, true, true] code_r05_Rise ⟨spread .undef 47 0 [(0, t0), (1, t1), (5, t5)], spread .val 47 0 [], spread none 47 0 [], []⟩
noncomputable def P_r05_Rise_6 (R : Orc) (t0 : DV) (t1 : DV) (t5 : DV) : Option DV := evP cfg R fl_r05_Rise (retP cfg.P Try.f17) [true, true, true, true] code_r05_Rise ⟨spread .undef 47 0 [(0, t0), (1, t1), (5, t5)], spread .val 47 0 [], spread none 47 0 [], []⟩
theorem eq_r05_Rise (R : Orc) (x0 : DV) (x1 : DV) : P_r05_Rise R x0 x1 =
  (P_r05_Rise_2h R x0 x1 (.int .i64 0)) := evP_of [4, 6] (by kernel_rfl)
theorem eq_r05_Rise_2h (R : Orc) (t0 : DV) (t1 : DV) (t5 : DV) : P_r05_Rise_2h R t0 t1 t5 =
  (ob (dLen t0) fun d1 =>
  ob (dBin .lss t5 d1) fun d2 =>
  ogd d2
   (ob (dIdx 1 t0 t5) fun d3 =>
   og (isLeaf d3) <|
   ob (dBin .lss d3 t1) fun d4 =>
   oif d4
    (ob (dBin .add t5 (.int .i64 1)) fun d5 =>
    P_r05_Rise_2h R t0 t1 d5)
    (P_r05_Rise_4 R t0 t1 t5))
   (P_r05_Rise_4 R t0 t1 t5)
   none) := headP_of [4, 6] (by kernel_rfl)
theorem eq_r05_Rise_4 (R : Orc) (t0 : DV) (t1 : DV) (t5 : DV) : P_r05_Rise_4 R t0 t1 t5 =
  (ob (dLen t0) fun d1 =>
  ob (dBin .lss t5 d1) fun d2 =>
  ogd d2
   (ob (dIdx 1 t0 t5) fun d3 =>
   og (isLeaf d3) <|
   ob (dBin .eql d3 t1) fun d4 =>
   oif d4
    (some t0)
    (P_r05_Rise_6 R t0 t1 t5))
   (P_r05_Rise_6 R t0 t1 t5)
   none) := evP_of [4, 6] (by kernel_rfl)
theorem eq_r05_Rise_6 (R : Orc) (t0 : DV) (t1 : DV) (t5 : DV) : P_r05_Rise_6 R t0 t1 t5 =
  (ob (dSlice 1 t0 none (some t5)) fun d1 =>
  ob (dApp 1 (.list 1 []) d1) fun d2 =>
  og (isCell t1) <|
  ob (dApp 1 d2 (.list 1 [t1])) fun d3 =>
  ob (dSlice 1 t0 (some t5) none) fun d4 =>
  ob (dApp 1 d3 d4) fun d5 =>
  some d5) := evP_of [4, 6] (by kernel_rfl)
theorem fix_r05_Rise (x0 : DV) (x1 : DV) : (run cfg).p F_r05_Rise [x0, x1] = P_r05_Rise (run cfg) x0 x1 :=
  (fix_pure (C := cfg) (f := F_r05_Rise) (fn := Try.f17) (c := code_r05_Rise) (by kernel_rfl) Try.func17 (by kernel_rfl)).trans (by kernel_rfl)
theorem call_r05_Rise (x0 : DV) (x1 : DV) {d : DV} (h : P_r05_Rise (run cfg) x0 x1 = some d) : (run cfg).p F_r05_Rise [x0, x1] = some d := (fix_r05_Rise x0 x1).trans h

noncomputable def code_keep_Texts : Code := Try.f18.body.getD .skip
noncomputable def P_keep_Texts (R : Orc) (x0 : DV) (x1 : DV) : Option DV := evP cfg R fl_keep_Texts (retP cfg.P Try.f18) [] code_keep_Texts (initSt Try.f18 [(x0, .val), (x1, .val)] [])
noncomputable def P_keep_Texts_4h (R : Orc) (t0 : DV) (t1 : DV) (t5 : DV) : Option DV := headP cfg R fl_keep_Texts (retP cfg.P Try.f18) [true, true, false, true, false] code_keep_Texts ⟨spread .undef 26 0 [(0, t0), (1, t1), (5, t5)], spread .val 26 0 [], spread none 26 0 [], []⟩
theorem eq_keep_Texts (R : Orc) (x0 : DV) (x1 : DV) : P_keep_Texts R x0 x1 =
  (ob (dLen x0) fun d1 =>
  ob (dLen x1) fun d2 =>
  ob (dBin .neq d1 d2) fun d3 =>
  oif d3
   (some (.bool false))
   (P_keep_Texts_4h R x0 x1 (.int .i64 0))) := evP_of [] (by kernel_rfl)
theorem eq_keep_Texts_4h (R : Orc) (t0 : DV) (t1 : DV) (t5 : DV) : P_keep_Texts_4h R t0 t1 t5 =
  (ob (dLen t0) fun d1 =>
  ob (dBin .lss t5 d1) fun d2 =>
  oif d2
   (ob (dIdx 1 t0 t5) fun d3 =>
   og (isLeaf d3) <|
   ob (dIdx 1 t1 t5) fun d4 =>
   og (isLeaf d4) <|
   ob (dBin .neq d3 d4) fun d5 =>
   oif d5
    (some (.bool false))
    (ob (dBin .add t5 (.int .i64 1)) fun d6 =>
    P_keep_Texts_4h R t0 t1 d6))
   (some (.bool true))) := headP_of [] (by kernel_rfl)
theorem fix_keep_Texts (x0 : DV) (x1 : DV) : (run cfg).p F_keep_Texts [x0, x1] = P_keep_Texts (run cfg) x0 x1 :=
  (fix_pure (C := cfg) (f := F_keep_Texts) (fn := Try.f18) (c := code_keep_Texts) (by kernel_rfl) Try.func18 (by kernel_rfl)).trans (by kernel_rfl)
theorem call_keep_Texts (x0 : DV) (x1 : DV) {d : DV} (h : P_keep_Texts (run cfg) x0 x1 = some d) : (run cfg).p F_keep_Texts [x0, x1] = some d := (fix_keep_Texts x0 x1).trans h

noncomputable def code_tree_Check : Code := Try.f19.body.getD .skip
noncomputable def P_tree_Check (R : Orc) (x0 : DV) : Option DV := evP cfg R fl_tree_Check (retP cfg.P Try.f19) [] code_tree_Check (initSt Try.f19 [(x0, .val)] [])
noncomputable def P_tree_Check_r0 (R : Orc) (t0 : DV) (t4 : DV) (sg : List SObj) : Option DV := evP cfg R fl_tree_Check (retP cfg.P Try.f19) [true, false, true, false] code_tree_Check ⟨spread .undef 10 0 [(0, t0), (3, (.tup [])), (4, t4), (6, (.tup [])), (7, (.tup [])), (8, (.tup [])), (9, (.tup []))], spread .val 10 0 [(1, (.ptr 0 0)), (2, (.ptr 1 0)), (5, (.fn 70 [(2, 0)]))], spread none 10 0 [], sg⟩
noncomputable def rcode_tree_Check_r0 : Code := match (sub [true, false, true, false] code_tree_Check []).1 with
  | .rangeFunc _ _ a b => .seq a b
  | c => c
noncomputable def X_tree_Check_r0 (R : Orc) (t0 : DV) (t4 : DV) (o : Out) (sg : List SObj) : Option DV := konP cfg R fl_tree_Check (retP cfg.P Try.f19) [true, false, true, false] code_tree_Check o (outerSt ⟨spread .undef 10 0 [(0, t0), (3, (.tup [])), (4, t4), (6, (.tup [])), (7, (.tup [])), (8, (.tup [])), (9, (.tup []))], spread .val 10 0 [(1, (.ptr 0 0)), (2, (.ptr 1 0)), (5, (.fn 70 [(2, 0)]))], spread none 10 0 [], []⟩ sg)
noncomputable def B_tree_Check_r0 (R : Orc) (t0 : DV) (t4 : DV) (I : List SObj → Option DV) (x : DV) (sg : List SObj) : Option DV := evP cfg R fl_tree_Check (kr I (X_tree_Check_r0 R t0 t4)) [] rcode_tree_Check_r0 ⟨spread .undef 10 0 [(6, x)], spread .val 10 0 [(2, (.ptr 1 0))], spread none 10 0 [], sg⟩
noncomputable def I_tree_Check_r0 (R : Orc) (t0 : DV) (t4 : DV) : List DV → List SObj → Option DV := foldIt (fun x I sg => B_tree_Check_r0 R t0 t4 I x sg) (X_tree_Check_r0 R t0 t4 .normal)
theorem eq_tree_Check (R : Orc) (x0 : DV) : P_tree_Check R x0 =
  (og (isAggN 16 x0) <|
  P_tree_Check_r0 R x0 (.agg [(proj 0 x0), (proj 1 x0), (proj 2 x0), (proj 3 x0), (proj 4 x0), (proj 5 x0), (proj 6 x0), (proj 7 x0), (proj 8 x0), (proj 9 x0), (proj 10 x0), (proj 11 x0), (proj 12 x0), (proj 13 x0), (proj 14 x0), (proj 15 x0)]) [SObj.box [((proj 0 x0), .val), ((proj 1 x0), .val), ((proj 2 x0), .val), ((proj 3 x0), .val), ((proj 4 x0), .val), ((proj 5 x0), .val), ((proj 6 x0), .val), ((proj 7 x0), .val), ((proj 8 x0), .val), ((proj 9 x0), .val), ((proj 10 x0), .val), ((proj 11 x0), .val), ((proj 12 x0), .val), ((proj 13 x0), .val), ((proj 14 x0), .val), ((proj 15 x0), .val)], SObj.box [((.int .i64 0), .val)], SObj.box [((proj 0 x0), .val), ((proj 1 x0), .val), ((proj 2 x0), .val), ((proj 3 x0), .val), ((proj 4 x0), .val), ((proj 5 x0), .val), ((proj 6 x0), .val), ((proj 7 x0), .val), ((proj 8 x0), .val), ((proj 9 x0), .val), ((proj 10 x0), .val), ((proj 11 x0), .val), ((proj 12 x0), .val), ((proj 13 x0), .val), ((proj 14 x0), .val), ((proj 15 x0), .val)]]) := evP_of [] (by kernel_rfl)
theorem eq_tree_Check_r0 (R : Orc) (t0 : DV) (t4 : DV) (sg : List SObj) : P_tree_Check_r0 R t0 t4 sg =
  ob (sgBox sg 2) fun cs => ob (allDat cs) fun cd => ob (flatD 16 15 cd) fun ds => I_tree_Check_r0 R t0 t4 ds (sg.set 2 (.arr 1 [])) :=
  (rangeP2 (t := 5) (f := 70) (i := 2) (q := 6) (it := flatD 16 15) (by kernel_rfl) (by kernel_rfl) (by kernel_rfl) (by kernel_rfl)).trans (by kernel_rfl)
theorem I_tree_Check_r0_nil (R : Orc) (t0 : DV) (t4 : DV) (sg : List SObj) : I_tree_Check_r0 R t0 t4 [] sg = X_tree_Check_r0 R t0 t4 .normal sg := rfl
theorem I_tree_Check_r0_cons (R : Orc) (t0 : DV) (t4 : DV) (x : DV) (ds : List DV) (sg : List SObj) : I_tree_Check_r0 R t0 t4 (x :: ds) sg = B_tree_Check_r0 R t0 t4 (I_tree_Check_r0 R t0 t4 ds) x sg := rfl
theorem eq_B_tree_Check_r0 (R : Orc) (t0 : DV) (t4 : DV) (I : List SObj → Option DV) (x : DV) (sg : List SObj) : B_tree_Check_r0 R t0 t4 I x sg =
  (og (isAggN 16 x) <|
  ob (R.p F_tree_one [(.agg [(proj 0 x), (proj 1 x), (proj 2 x), (proj 3 x), (proj 4 x), (proj 5 x), (proj 6 x), (proj 7 x), (proj 8 x), (proj 9 x), (proj 10 x), (proj 11 x), (proj 12 x), (proj 13 x), (proj 14 x), (proj 15 x)])]) fun d1 =>
  ob (dUn .not d1) fun d2 =>
  oif d2
   (ob (sgBox sg 1) fun c3 =>
   ob (c3[0]?) fun u4 =>
   X_tree_Check_r0 R t0 t4 .ret (sg.set 1 (SObj.box (c3.set 0 ((.int .i64 1), .val)))))
   (I sg)) := evP_of [] (by kernel_rfl)
theorem eq_X_tree_Check_r0_normal (R : Orc) (t0 : DV) (t4 : DV) (sg : List SObj) : X_tree_Check_r0 R t0 t4 .normal sg =
  (ob (sgBox sg 1) fun c1 =>
  ob (c1[0]?) fun u2 =>
  ret1 (ob (sgBox (sg.set 1 (SObj.box (c1.set 0 ((.int .i64 0), .val)))) 1) fun c => oneCell (sg.set 1 (SObj.box (c1.set 0 ((.int .i64 0), .val)))) c)) := konP_of [] (by kernel_rfl)
theorem eq_X_tree_Check_r0_ret (R : Orc) (t0 : DV) (t4 : DV) (sg : List SObj) : X_tree_Check_r0 R t0 t4 .ret sg =
  (ret1 (ob (sgBox sg 1) fun c => oneCell sg c)) := konP_of [] (by kernel_rfl)
theorem fix_tree_Check (x0 : DV) : (run cfg).p F_tree_Check [x0] = P_tree_Check (run cfg) x0 :=
  (fix_pure (C := cfg) (f := F_tree_Check) (fn := Try.f19) (c := code_tree_Check) (by kernel_rfl) Try.func19 (by kernel_rfl)).trans (by kernel_rfl)
theorem call_tree_Check (x0 : DV) {d : DV} (h : P_tree_Check (run cfg) x0 = some d) : (run cfg).p F_tree_Check [x0] = some d := (fix_tree_Check x0).trans h

noncomputable def code_tree_Anns : Code := Try.f20.body.getD .skip
noncomputable def P_tree_Anns (R : Orc) (x0 : DV) : Option DV := evP cfg R fl_tree_Anns (retP cfg.P Try.f20) [] code_tree_Anns (initSt Try.f20 [(x0, .val)] [])
noncomputable def P_tree_Anns_r0 (R : Orc) (t0 : DV) (t7 : DV) (t8 : DV) (t10 : DV) (sg : List SObj) : Option DV := evP cfg R fl_tree_Anns (retP cfg.P Try.f20) [true, true, true, false, true, false] code_tree_Anns ⟨spread .undef 34 0 [(0, t0), (2, (.list 3 [])), (4, (.tup [])), (5, (.tup [])), (6, (.tup [])), (7, t7), (8, t8), (9, (.bool false)), (10, t10), (12, (.tup [])), (13, (.tup [])), (14, (.tup [])), (15, (.tup [])), (16, (.tup [])), (17, (.tup [])), (18, (.tup [])), (19, (.tup [])), (20, (.tup [])), (21, (.tup [])), (22, (.tup [])), (23, (.tup [])), (24, (.tup [])), (25, (.tup [])), (26, (.tup [])), (27, (.tup [])), (28, (.tup [])), (29, (.tup [])), (30, (.tup [])), (31, (.tup [])), (32, (.tup [])), (33, (.tup []))], spread .val 34 0 [(1, (.ptr 0 0)), (2, .full), (3, (.ptr 1 0)), (11, (.fn 70 [(2, 0)]))], spread none 34 0 [], sg⟩
noncomputable def rcode_tree_Anns_r0 : Code := match (sub [true, true, true, false, true, false] code_tree_Anns []).1 with
  | .rangeFunc _ _ a b => .seq a b
  | c => c
noncomputable def X_tree_Anns_r0 (R : Orc) (t0 : DV) (t7 : DV) (t8 : DV) (t10 : DV) (o : Out) (sg : List SObj) : Option DV := konP cfg R fl_tree_Anns (retP cfg.P Try.f20) [true, true, true, false, true, false] code_tree_Anns o (outerSt ⟨spread .undef 34 0 [(0, t0), (2, (.list 3 [])), (4, (.tup [])), (5, (.tup [])), (6, (.tup [])), (7, t7), (8, t8), (9, (.bool false)), (10, t10), (12, (.tup [])), (13, (.tup [])), (14, (.tup [])), (15, (.tup [])), (16, (.tup [])), (17, (.tup [])), (18, (.tup [])), (19, (.tup [])), (20, (.tup [])), (21, (.tup [])), (22, (.tup [])), (23, (.tup [])), (24, (.tup [])), (25, (.tup [])), (26, (.tup [])), (27, (.tup [])), (28, (.tup [])), (29, (.tup [])), (30, (.tup [])), (31, (.tup [])), (32, (.tup [])), (33, (.tup []))], spread .val 34 0 [(1, (.ptr 0 0)), (2, .full), (3, (.ptr 1 0)), (11, (.fn 70 [(2, 0)]))], spread none 34 0 [], []⟩ sg)
noncomputable def B_tree_Anns_r0 (R : Orc) (t0 : DV) (t7 : DV) (t8 : DV) (t10 : DV) (I : List SObj → Option DV) (x : DV) (sg : List SObj) : Option DV := evP cfg R fl_tree_Anns (kr I (X_tree_Anns_r0 R t0 t7 t8 t10)) [] rcode_tree_Anns_r0 ⟨spread .undef 34 0 [(12, x)], spread .val 34 0 [(3, (.ptr 1 0))], spread none 34 0 [], sg⟩
noncomputable def I_tree_Anns_r0 (R : Orc) (t0 : DV) (t7 : DV) (t8 : DV) (t10 : DV) : List DV → List SObj → Option DV := foldIt (fun x I sg => B_tree_Anns_r0 R t0 t7 t8 t10 I x sg) (X_tree_Anns_r0 R t0 t7 t8 t10 .normal)
noncomputable def P_tree_Anns_7h (R : Orc) (t0 : DV) (t7 : DV) (t8 : DV) (t10 : DV) (I : List SObj → Option DV) (t17 : DV) (t18 : DV) (t19 : DV) (sg : List SObj) : Option DV := headP cfg R fl_tree_Anns (kr I (X_tree_Anns_r0 R t0 t7 t8 t10)) [true, false, true, false] rcode_tree_Anns_r0 ⟨spread .undef 34 0 [(17, t17), (18, t18), (19, t19)], spread .val 34 0 [(3, (.ptr 1 0))], spread none 34 0 [], sg⟩
theorem eq_tree_Anns (R : Orc) (x0 : DV) : P_tree_Anns R x0 =
  (og (isAggN 16 x0) <|
  ob (R.p F_tree_Check [(.agg [(proj 0 x0), (proj 1 x0), (proj 2 x0), (proj 3 x0), (proj 4 x0), (proj 5 x0), (proj 6 x0), (proj 7 x0), (proj 8 x0), (proj 9 x0), (proj 10 x0), (proj 11 x0), (proj 12 x0), (proj 13 x0), (proj 14 x0), (proj 15 x0)])]) fun d1 =>
  ob (dBin .neq d1 (.int .i64 0)) fun d2 =>
  oif d2
   (some (.list 3 []))
   (P_tree_Anns_r0 R x0 (.agg [(proj 0 x0), (proj 1 x0), (proj 2 x0), (proj 3 x0), (proj 4 x0), (proj 5 x0), (proj 6 x0), (proj 7 x0), (proj 8 x0), (proj 9 x0), (proj 10 x0), (proj 11 x0), (proj 12 x0), (proj 13 x0), (proj 14 x0), (proj 15 x0)]) d1 (.agg [(proj 0 x0), (proj 1 x0), (proj 2 x0), (proj 3 x0), (proj 4 x0), (proj 5 x0), (proj 6 x0), (proj 7 x0), (proj 8 x0), (proj 9 x0), (proj 10 x0), (proj 11 x0), (proj 12 x0), (proj 13 x0), (proj 14 x0), (proj 15 x0)]) [SObj.box [((proj 0 x0), .val), ((proj 1 x0), .val), ((proj 2 x0), .val), ((proj 3 x0), .val), ((proj 4 x0), .val), ((proj 5 x0), .val), ((proj 6 x0), .val), ((proj 7 x0), .val), ((proj 8 x0), .val), ((proj 9 x0), .val), ((proj 10 x0), .val), ((proj 11 x0), .val), ((proj 12 x0), .val), ((proj 13 x0), .val), ((proj 14 x0), .val), ((proj 15 x0), .val)], SObj.box [((.list 3 []), .full)], SObj.box [((proj 0 x0), .val), ((proj 1 x0), .val), ((proj 2 x0), .val), ((proj 3 x0), .val), ((proj 4 x0), .val), ((proj 5 x0), .val), ((proj 6 x0), .val), ((proj 7 x0), .val), ((proj 8 x0), .val), ((proj 9 x0), .val), ((proj 10 x0), .val), ((proj 11 x0), .val), ((proj 12 x0), .val), ((proj 13 x0), .val), ((proj 14 x0), .val), ((proj 15 x0), .val)]])) := evP_of [] (by kernel_rfl)
theorem eq_tree_Anns_r0 (R : Orc) (t0 : DV) (t7 : DV) (t8 : DV) (t10 : DV) (sg : List SObj) : P_tree_Anns_r0 R t0 t7 t8 t10 sg =
  ob (sgBox sg 2) fun cs => ob (allDat cs) fun cd => ob (flatD 16 15 cd) fun ds => I_tree_Anns_r0 R t0 t7 t8 t10 ds (sg.set 2 (.arr 1 [])) :=
  (rangeP2 (t := 11) (f := 70) (i := 2) (q := 12) (it := flatD 16 15) (by kernel_rfl) (by kernel_rfl) (by kernel_rfl) (by kernel_rfl)).trans (by kernel_rfl)
theorem I_tree_Anns_r0_nil (R : Orc) (t0 : DV) (t7 : DV) (t8 : DV) (t10 : DV) (sg : List SObj) : I_tree_Anns_r0 R t0 t7 t8 t10 [] sg = X_tree_Anns_r0 R t0 t7 t8 t10 .normal sg := rfl
theorem I_tree_Anns_r0_cons (R : Orc) (t0 : DV) (t7 : DV) (t8 : DV) (t10 : DV) (x : DV) (ds : List DV) (sg : List SObj) : I_tree_Anns_r0 R t0 t7 t8 t10 (x :: ds) sg = B_tree_Anns_r0 R t0 t7 t8 t10 (I_tree_Anns_r0 R t0 t7 t8 t10 ds) x sg := rfl
theorem eq_B_tree_Anns_r0 (R : Orc) (t0 : DV) (t7 : DV) (t8 : DV) (t10 : DV) (I : List SObj → Option DV) (x : DV) (sg : List SObj) : B_tree_Anns_r0 R t0 t7 t8 t10 I x sg =
  (og (isAggN 16 x) <|
  P_tree_Anns_7h R t0 t7 t8 t10 I (.list 3 [(.agg [(proj 8 x), (proj 9 x), (proj 10 x)]), (.agg [(proj 11 x), (proj 12 x), (proj 13 x)])]) (.int .i64 2) (.int .i64 0) sg) := evP_of [] (by kernel_rfl)
theorem eq_X_tree_Anns_r0_normal (R : Orc) (t0 : DV) (t7 : DV) (t8 : DV) (t10 : DV) (sg : List SObj) : X_tree_Anns_r0 R t0 t7 t8 t10 .normal sg =
  (ob (sgBox sg 1) fun c1 =>
  ob (cellDat c1 0) fun d2 =>
  some d2) := konP_of [] (by kernel_rfl)
theorem eq_tree_Anns_7h (R : Orc) (t0 : DV) (t7 : DV) (t8 : DV) (t10 : DV) (I : List SObj → Option DV) (t17 : DV) (t18 : DV) (t19 : DV) (sg : List SObj) : P_tree_Anns_7h R t0 t7 t8 t10 I t17 t18 t19 sg =
  (ob (dBin .lss t19 t18) fun d1 =>
  oif d1
   (ob (dIdx 3 t17 t19) fun d2 =>
   ob (R.p F_tree_none [(.agg [(proj 0 d2), (proj 1 d2), (proj 2 d2)])]) fun d3 =>
   ob (dUn .not d3) fun d4 =>
   oif d4
    (ob (sgBox sg 1) fun c5 =>
    ob (cellOwn c5 0) fun d6 =>
    ob (dLen d6) fun d7 =>
    ob (dApp2 3 d6 (.list 3 [(.agg [(.int .i64 0), (.int .i64 0), (.list 3 [])])])) fun p8 =>
    ob (arrIdx 0 (p8.1.length + p8.2.length) d7) fun n9 =>
    ob (sgOpn ((sg.set 1 (SObj.box (c5.set 0 (d6, .val)))) ++ [SObj.opn 3 p8.1 p8.2]) ((sg.set 1 (SObj.box (c5.set 0 (d6, .val))))).length) fun q10 =>
    og (q10.1 == 3 && true) <|
    ob (openSet q10 n9 (.agg [(proj 0 d2), (proj 1 d2), (proj 2 d2)])) fun x11 =>
    ob (sgBox (((sg.set 1 (SObj.box (c5.set 0 (d6, .val)))) ++ [SObj.opn 3 p8.1 p8.2]).set ((sg.set 1 (SObj.box (c5.set 0 (d6, .val))))).length (x11)) 1) fun c12 =>
    ob (c12[0]?) fun u13 =>
    ob (sgBox ((((sg.set 1 (SObj.box (c5.set 0 (d6, .val)))) ++ [SObj.opn 3 p8.1 p8.2]).set ((sg.set 1 (SObj.box (c5.set 0 (d6, .val))))).length (x11)).set 1 (SObj.box (c12.set 0 (.undef, (.arr ((sg.set 1 (SObj.box (c5.set 0 (d6, .val))))).length 3 0 (p8.1.length + p8.2.length)))))) 1) fun c14 =>
    ob (cellArr c14 0) fun a15 =>
    ob (sgOpn ((((sg.set 1 (SObj.box (c5.set 0 (d6, .val)))) ++ [SObj.opn 3 p8.1 p8.2]).set ((sg.set 1 (SObj.box (c5.set 0 (d6, .val))))).length (x11)).set 1 (SObj.box (c12.set 0 (.undef, (.arr ((sg.set 1 (SObj.box (c5.set 0 (d6, .val))))).length 3 0 (p8.1.length + p8.2.length)))))) a15.1) fun q16 =>
    ob (closeObj q16 a15.2.1 a15.2.2) fun d17 =>
    ob (dBin .add t19 (.int .i64 1)) fun d18 =>
    P_tree_Anns_7h R t0 t7 t8 t10 I t17 t18 d18 ((((((sg.set 1 (SObj.box (c5.set 0 (d6, .val)))) ++ [SObj.opn 3 p8.1 p8.2]).set ((sg.set 1 (SObj.box (c5.set 0 (d6, .val))))).length (x11)).set 1 (SObj.box (c12.set 0 (.undef, (.arr ((sg.set 1 (SObj.box (c5.set 0 (d6, .val))))).length 3 0 (p8.1.length + p8.2.length)))))).set 1 (SObj.box (c14.set 0 (d17, .own)))).set a15.1 (.arr 1 [])))
    (ob (dBin .add t19 (.int .i64 1)) fun d19 =>
    P_tree_Anns_7h R t0 t7 t8 t10 I t17 t18 d19 sg))
   (I sg)) := headP_of [] (by kernel_rfl)
theorem fix_tree_Anns (x0 : DV) : (run cfg).p F_tree_Anns [x0] = P_tree_Anns (run cfg) x0 :=
  (fix_pure (C := cfg) (f := F_tree_Anns) (fn := Try.f20) (c := code_tree_Anns) (by kernel_rfl) Try.func20 (by kernel_rfl)).trans (by kernel_rfl)
theorem call_tree_Anns (x0 : DV) {d : DV} (h : P_tree_Anns (run cfg) x0 = some d) : (run cfg).p F_tree_Anns [x0] = some d := (fix_tree_Anns x0).trans h

noncomputable def code_tree_Value : Code := Try.f21.body.getD .skip
noncomputable def P_tree_Value (R : Orc) (x0 : DV) : Option DV := evP cfg R fl_tree_Value (retP cfg.P Try.f21) [] code_tree_Value (initSt Try.f21 [(x0, .val)] [])
theorem eq_tree_Value (R : Orc) (x0 : DV) : P_tree_Value R x0 =
  (og (isAggN 16 x0) <|
  ob (R.p F_tree_Check [(.agg [(proj 0 x0), (proj 1 x0), (proj 2 x0), (proj 3 x0), (proj 4 x0), (proj 5 x0), (proj 6 x0), (proj 7 x0), (proj 8 x0), (proj 9 x0), (proj 10 x0), (proj 11 x0), (proj 12 x0), (proj 13 x0), (proj 14 x0), (proj 15 x0)])]) fun d1 =>
  ob (dBin .eql d1 (.int .i64 0)) fun d2 =>
  ogd d2
   (ob (R.p F_tree_value [(.agg [(proj 0 x0), (proj 1 x0), (proj 2 x0), (proj 3 x0), (proj 4 x0), (proj 5 x0), (proj 6 x0), (proj 7 x0), (proj 8 x0), (proj 9 x0), (proj 10 x0), (proj 11 x0), (proj 12 x0), (proj 13 x0), (proj 14 x0), (proj 15 x0)])]) fun d3 =>
   some d3)
   (some (.bool false))
   none) := evP_of [] (by kernel_rfl)
theorem fix_tree_Value (x0 : DV) : (run cfg).p F_tree_Value [x0] = P_tree_Value (run cfg) x0 :=
  (fix_pure (C := cfg) (f := F_tree_Value) (fn := Try.f21) (c := code_tree_Value) (by kernel_rfl) Try.func21 (by kernel_rfl)).trans (by kernel_rfl)
theorem call_tree_Value (x0 : DV) {d : DV} (h : P_tree_Value (run cfg) x0 = some d) : (run cfg).p F_tree_Value [x0] = some d := (fix_tree_Value x0).trans h

noncomputable def code_tree_Size : Code := Try.f23.body.getD .skip
noncomputable def P_tree_Size (R : Orc) (x0 : DV) : Option DV := evP cfg R fl_tree_Size (retP cfg.P Try.f23) [] code_tree_Size (initSt Try.f23 [(x0, .val)] [])
noncomputable def P_tree_Size_r0 (R : Orc) (t0 : DV) (t4 : DV) (sg : List SObj) : Option DV := evP cfg R fl_tree_Size (retP cfg.P Try.f23) [true, true, false, true, false] code_tree_Size ⟨spread .undef 10 0 [(0, t0), (2, (.int .i64 0)), (4, t4), (6, (.tup [])), (7, (.tup [])), (8, (.tup [])), (9, (.tup []))], spread .val 10 0 [(1, (.ptr 0 0)), (3, (.ptr 1 0)), (5, (.fn 70 [(2, 0)]))], spread none 10 0 [], sg⟩
noncomputable def rcode_tree_Size_r0 : Code := match (sub [true, true, false, true, false] code_tree_Size []).1 with
  | .rangeFunc _ _ a b => .seq a b
  | c => c
noncomputable def X_tree_Size_r0 (R : Orc) (t0 : DV) (t4 : DV) (o : Out) (sg : List SObj) : Option DV := konP cfg R fl_tree_Size (retP cfg.P Try.f23) [true, true, false, true, false] code_tree_Size o (outerSt ⟨spread .undef 10 0 [(0, t0), (2, (.int .i64 0)), (4, t4), (6, (.tup [])), (7, (.tup [])), (8, (.tup [])), (9, (.tup []))], spread .val 10 0 [(1, (.ptr 0 0)), (3, (.ptr 1 0)), (5, (.fn 70 [(2, 0)]))], spread none 10 0 [], []⟩ sg)
noncomputable def B_tree_Size_r0 (R : Orc) (t0 : DV) (t4 : DV) (I : List SObj → Option DV) (x : DV) (sg : List SObj) : Option DV := evP cfg R fl_tree_Size (kr I (X_tree_Size_r0 R t0 t4)) [] rcode_tree_Size_r0 ⟨spread .undef 10 0 [(0, t0), (2, (.int .i64 0)), (4, t4), (6, x), (7, (.tup [])), (8, (.tup [])), (9, (.tup []))], spread .val 10 0 [(1, (.ptr 0 0)), (3, (.ptr 1 0)), (5, (.fn 70 [(2, 0)]))], spread none 10 0 [], sg⟩
noncomputable def I_tree_Size_r0 (R : Orc) (t0 : DV) (t4 : DV) : List DV → List SObj → Option DV := foldIt (fun x I sg => B_tree_Size_r0 R t0 t4 I x sg) (X_tree_Size_r0 R t0 t4 .normal)
theorem eq_tree_Size (R : Orc) (x0 : DV) : P_tree_Size R x0 =
  (og (isAggN 16 x0) <|
  P_tree_Size_r0 R x0 (.agg [(proj 0 x0), (proj 1 x0), (proj 2 x0), (proj 3 x0), (proj 4 x0), (proj 5 x0), (proj 6 x0), (proj 7 x0), (proj 8 x0), (proj 9 x0), (proj 10 x0), (proj 11 x0), (proj 12 x0), (proj 13 x0), (proj 14 x0), (proj 15 x0)]) [SObj.box [((proj 0 x0), .val), ((proj 1 x0), .val), ((proj 2 x0), .val), ((proj 3 x0), .val), ((proj 4 x0), .val), ((proj 5 x0), .val), ((proj 6 x0), .val), ((proj 7 x0), .val), ((proj 8 x0), .val), ((proj 9 x0), .val), ((proj 10 x0), .val), ((proj 11 x0), .val), ((proj 12 x0), .val), ((proj 13 x0), .val), ((proj 14 x0), .val), ((proj 15 x0), .val)], SObj.box [((.int .i64 0), .val)], SObj.box [((proj 0 x0), .val), ((proj 1 x0), .val), ((proj 2 x0), .val), ((proj 3 x0), .val), ((proj 4 x0), .val), ((proj 5 x0), .val), ((proj 6 x0), .val), ((proj 7 x0), .val), ((proj 8 x0), .val), ((proj 9 x0), .val), ((proj 10 x0), .val), ((proj 11 x0), .val), ((proj 12 x0), .val), ((proj 13 x0), .val), ((proj 14 x0), .val), ((proj 15 x0), .val)]]) := evP_of [] (by kernel_rfl)
theorem eq_tree_Size_r0 (R : Orc) (t0 : DV) (t4 : DV) (sg : List SObj) : P_tree_Size_r0 R t0 t4 sg =
  ob (sgBox sg 2) fun cs => ob (allDat cs) fun cd => ob (flatD 16 15 cd) fun ds => I_tree_Size_r0 R t0 t4 ds (sg.set 2 (.arr 1 [])) :=
  (rangeP2 (t := 5) (f := 70) (i := 2) (q := 6) (it := flatD 16 15) (by kernel_rfl) (by kernel_rfl) (by kernel_rfl) (by kernel_rfl)).trans (by kernel_rfl)
theorem I_tree_Size_r0_nil (R : Orc) (t0 : DV) (t4 : DV) (sg : List SObj) : I_tree_Size_r0 R t0 t4 [] sg = X_tree_Size_r0 R t0 t4 .normal sg := rfl
theorem I_tree_Size_r0_cons (R : Orc) (t0 : DV) (t4 : DV) (x : DV) (ds : List DV) (sg : List SObj) : I_tree_Size_r0 R t0 t4 (x :: ds) sg = B_tree_Size_r0 R t0 t4 (I_tree_Size_r0 R t0 t4 ds) x sg := rfl
theorem eq_B_tree_Size_r0 (R : Orc) (t0 : DV) (t4 : DV) (I : List SObj → Option DV) (x : DV) (sg : List SObj) : B_tree_Size_r0 R t0 t4 I x sg =
  (ob (sgBox sg 1) fun c1 =>
  ob (cellDat c1 0) fun d2 =>
  ob (dBin .add d2 (.int .i64 1)) fun d3 =>
  ob (sgBox sg 1) fun c4 =>
  og (isCell d3) <|
  ob (c4[0]?) fun u5 =>
  I (sg.set 1 (SObj.box (c4.set 0 (d3, .val))))) := evP_of [] (by kernel_rfl)
theorem eq_X_tree_Size_r0_normal (R : Orc) (t0 : DV) (t4 : DV) (sg : List SObj) : X_tree_Size_r0 R t0 t4 .normal sg =
  (ob (sgBox sg 1) fun c1 =>
  ob (cellDat c1 0) fun d2 =>
  some d2) := konP_of [] (by kernel_rfl)
theorem fix_tree_Size (x0 : DV) : (run cfg).p F_tree_Size [x0] = P_tree_Size (run cfg) x0 :=
  (fix_pure (C := cfg) (f := F_tree_Size) (fn := Try.f23) (c := code_tree_Size) (by kernel_rfl) Try.func23 (by kernel_rfl)).trans (by kernel_rfl)
theorem call_tree_Size (x0 : DV) {d : DV} (h : P_tree_Size (run cfg) x0 = some d) : (run cfg).p F_tree_Size [x0] = some d := (fix_tree_Size x0).trans h

noncomputable def code_tree_Depth : Code := Try.f24.body.getD .skip
noncomputable def P_tree_Depth (R : Orc) (x0 : DV) : Option DV := evP cfg R fl_tree_Depth (retP cfg.P Try.f24) [] code_tree_Depth (initSt Try.f24 [(x0, .val)] [])
noncomputable def P_tree_Depth_3h (R : Orc) (t3 : DV) (t11 : DV) (t12 : DV) (t13 : DV) (b1 : DV) : Option DV := headP cfg R fl_tree_Depth (retP cfg.P Try.f24) [true, true, false, true, false] code_tree_Depth ⟨spread .undef 54 0 [(3, t3), (11, t11), (12, t12), (13, t13)], spread .val 54 0 [(1, (.loc 1 0))], spread none 54 0 [(1, some [((proj 0 b1), .val), ((proj 1 b1), .val), ((proj 2 b1), .val), ((proj 3 b1), .val), ((proj 4 b1), .val), ((proj 5 b1), .val), ((proj 6 b1), .val), ((proj 7 b1), .val), ((proj 8 b1), .val), ((proj 9 b1), .val), ((proj 10 b1), .val), ((proj 11 b1), .val), ((proj 12 b1), .val), ((proj 13 b1), .val), ((proj 14 b1), .val), ((proj 15 b1), .val)])], []⟩
noncomputable def P_tree_Depth_8h (R : Orc) (t3 : DV) (t23 : DV) (t24 : DV) (t25 : DV) (b1 : DV) : Option DV := headP cfg R fl_tree_Depth (retP cfg.P Try.f24) [true, true, true, false, true, false] code_tree_Depth ⟨spread .undef 54 0 [(3, t3), (23, t23), (24, t24), (25, t25)], spread .val 54 0 [(1, (.loc 1 0))], spread none 54 0 [(1, some [((proj 0 b1), .val), ((proj 1 b1), .val), ((proj 2 b1), .val), ((proj 3 b1), .val), ((proj 4 b1), .val), ((proj 5 b1), .val), ((proj 6 b1), .val), ((proj 7 b1), .val), ((proj 8 b1), .val), ((proj 9 b1), .val), ((proj 10 b1), .val), ((proj 11 b1), .val), ((proj 12 b1), .val), ((proj 13 b1), .val), ((proj 14 b1), .val), ((proj 15 b1), .val)])], []⟩
noncomputable def P_tree_Depth_13h (R : Orc) (t3 : DV) (t38 : DV) (t39 : DV) (t40 : DV) : Option DV := headP cfg R fl_tree_Depth (retP cfg.P Try.f24) [true, true, true, true, false, true, false] code_tree_Depth ⟨spread .undef 54 0 [(3, t3), (38, t38), (39, t39), (40, t40)], spread .val 54 0 [], spread none 54 0 [], []⟩
theorem eq_tree_Depth (R : Orc) (x0 : DV) : P_tree_Depth R x0 =
  (og (isAggN 16 x0) <|
  ob (dLen (proj 15 x0)) fun d1 =>
  P_tree_Depth_3h R (.int .i64 0) (proj 15 x0) d1 (.int .i64 0) x0) := evP_of [] (by kernel_rfl)
theorem eq_tree_Depth_3h (R : Orc) (t3 : DV) (t11 : DV) (t12 : DV) (t13 : DV) (b1 : DV) : P_tree_Depth_3h R t3 t11 t12 t13 b1 =
  (ob (dBin .lss t13 t12) fun d1 =>
  oif d1
   (ob (dIdx 16 t11 t13) fun d2 =>
   ob (R.p F_tree_Depth [(.agg [(proj 0 d2), (proj 1 d2), (proj 2 d2), (proj 3 d2), (proj 4 d2), (proj 5 d2), (proj 6 d2), (proj 7 d2), (proj 8 d2), (proj 9 d2), (proj 10 d2), (proj 11 d2), (proj 12 d2), (proj 13 d2), (proj 14 d2), (proj 15 d2)])]) fun d3 =>
   ob (dMax t3 d3) fun d4 =>
   ob (dBin .add t13 (.int .i64 1)) fun d5 =>
   P_tree_Depth_3h R d4 t11 t12 d5 b1)
   (ob (dLen (proj 14 b1)) fun d6 =>
   P_tree_Depth_8h R t3 (proj 14 b1) d6 (.int .i64 0) b1)) := headP_of [] (by kernel_rfl)
theorem eq_tree_Depth_8h (R : Orc) (t3 : DV) (t23 : DV) (t24 : DV) (t25 : DV) (b1 : DV) : P_tree_Depth_8h R t3 t23 t24 t25 b1 =
  (ob (dBin .lss t25 t24) fun d1 =>
  oif d1
   (ob (dIdx 7 t23 t25) fun d2 =>
   ob (R.p F_tree_depthPat [(.agg [(proj 0 d2), (proj 1 d2), (proj 2 d2), (proj 3 d2), (proj 4 d2), (proj 5 d2), (proj 6 d2)])]) fun d3 =>
   ob (dMax t3 d3) fun d4 =>
   ob (dBin .add t25 (.int .i64 1)) fun d5 =>
   P_tree_Depth_8h R d4 t23 t24 d5 b1)
   (P_tree_Depth_13h R t3 (.list 3 [(.agg [(proj 8 b1), (proj 9 b1), (proj 10 b1)]), (.agg [(proj 11 b1), (proj 12 b1), (proj 13 b1)])]) (.int .i64 2) (.int .i64 0))) := headP_of [] (by kernel_rfl)
theorem eq_tree_Depth_13h (R : Orc) (t3 : DV) (t38 : DV) (t39 : DV) (t40 : DV) : P_tree_Depth_13h R t3 t38 t39 t40 =
  (ob (dBin .lss t40 t39) fun d1 =>
  oif d1
   (ob (dIdx 3 t38 t40) fun d2 =>
   ob (R.p F_tree_none [(.agg [(proj 0 d2), (proj 1 d2), (proj 2 d2)])]) fun d3 =>
   ob (dUn .not d3) fun d4 =>
   oif d4
    (ob (R.p F_typ_Depth [(.agg [(proj 0 d2), (proj 1 d2), (proj 2 d2)])]) fun d5 =>
    ob (dMax t3 d5) fun d6 =>
    ob (dBin .add t40 (.int .i64 1)) fun d7 =>
    P_tree_Depth_13h R d6 t38 t39 d7)
    (ob (dBin .add t40 (.int .i64 1)) fun d8 =>
    P_tree_Depth_13h R t3 t38 t39 d8))
   (ob (dBin .add t3 (.int .i64 1)) fun d9 =>
   some d9)) := headP_of [] (by kernel_rfl)
theorem fix_tree_Depth (x0 : DV) : (run cfg).p F_tree_Depth [x0] = P_tree_Depth (run cfg) x0 :=
  (fix_pure (C := cfg) (f := F_tree_Depth) (fn := Try.f24) (c := code_tree_Depth) (by kernel_rfl) Try.func24 (by kernel_rfl)).trans (by kernel_rfl)
theorem call_tree_Depth (x0 : DV) {d : DV} (h : P_tree_Depth (run cfg) x0 = some d) : (run cfg).p F_tree_Depth [x0] = some d := (fix_tree_Depth x0).trans h

end Go.Su

/-
  Equations of the program's functions: by program.
-/
namespace Go.Su
open Go.Proofs
set_option linter.unusedVariables false

noncomputable def code_tree_Same : Code := Try.f27.body.getD .skip
noncomputable def P_tree_Same (R : Orc) (x0 : DV) (x1 : DV) : Option DV := evP cfg R fl_tree_Same (retP cfg.P Try.f27) [] code_tree_Same (initSt Try.f27 [(x0, .val), (x1, .val)] [])
noncomputable def P_tree_Same_3 (R : Orc) (b2 : DV) (b3 : DV) : Option DV := evP cfg R fl_tree_Same (retP cfg.P Try.f27) [true, true] code_tree_Same ⟨spread .undef 71 0 [], spread .val 71 0 [(2, (.loc 2 0)), (3, (.loc 3 0))], spread none 71 0 [(2, some [((proj 0 b2), .val), ((proj 1 b2), .val), ((proj 2 b2), .val), ((proj 3 b2), .val), ((proj 4 b2), .val), ((proj 5 b2), .val), ((proj 6 b2), .val), ((proj 7 b2), .val), ((proj 8 b2), .val), ((proj 9 b2), .val), ((proj 10 b2), .val), ((proj 11 b2), .val), ((proj 12 b2), .val), ((proj 13 b2), .val), ((proj 14 b2), .val), ((proj 15 b2), .val)]), (3, some [((proj 0 b3), .val), ((proj 1 b3), .val), ((proj 2 b3), .val), ((proj 3 b3), .val), ((proj 4 b3), .val), ((proj 5 b3), .val), ((proj 6 b3), .val), ((proj 7 b3), .val), ((proj 8 b3), .val), ((proj 9 b3), .val), ((proj 10 b3), .val), ((proj 11 b3), .val), ((proj 12 b3), .val), ((proj 13 b3), .val), ((proj 14 b3), .val), ((proj 15 b3), .val)])], []⟩
set_option maxRecDepth 100000 in
theorem eq_tree_Same (R : Orc) (x0 : DV) (x1 : DV) : P_tree_Same R x0 x1 =
  (og (isAggN 16 x0) <|
  og (isAggN 16 x1) <|
  ob (dBin .neq (proj 0 x0) (proj 0 x1)) fun d1 =>
  ogd d1
   (some (.bool false))
   (ob (dBin .neq (proj 3 x0) (proj 3 x1)) fun d2 =>
   ogd d2
    (some (.bool false))
    (ob (dBin .neq (proj 4 x0) (proj 4 x1)) fun d3 =>
    ogd d3
     (some (.bool false))
     (ob (dBin .neq (proj 5 x0) (proj 5 x1)) fun d4 =>
     ogd d4
      (some (.bool false))
      (ob (dBin .neq (proj 6 x0) (proj 6 x1)) fun d5 =>
      ogd d5
       (some (.bool false))
       (ob (dBin .neq (proj 7 x0) (proj 7 x1)) fun d6 =>
       oif d6
        (some (.bool false))
        (P_tree_Same_3 R x0 x1))
       none)
      none)
     none)
    none)
   none) := evP_of [3] (by kernel_rfl)
set_option maxRecDepth 100000 in
theorem eq_tree_Same_3 (R : Orc) (b2 : DV) (b3 : DV) : P_tree_Same_3 R b2 b3 =
  (ob (R.p F_typ_Same [(.agg [(proj 8 b2), (proj 9 b2), (proj 10 b2)]), (.agg [(proj 8 b3), (proj 9 b3), (proj 10 b3)])]) fun d1 =>
  ogd d1
   (ob (R.p F_typ_Same [(.agg [(proj 11 b2), (proj 12 b2), (proj 13 b2)]), (.agg [(proj 11 b3), (proj 12 b3), (proj 13 b3)])]) fun d2 =>
   ogd d2
    (ob (R.r F_slices_EqualFunc__api_Pat__api_Pat_api_Pat_api_Pat [((proj 14 b2), .val), ((proj 14 b3), .val), (.undef, (.fn 52 []))] []) fun q3 =>
    ogd (q3.1.getD 0 .undef)
     (ob (R.r F_slices_EqualFunc__api_Expr__api_Expr_api_Expr_api_Expr [((proj 15 b2), .val), ((proj 15 b3), .val), (.undef, (.fn 27 []))] q3.2) fun q4 =>
     some (q4.1.getD 0 .undef))
     (some (.bool false))
     none)
    (some (.bool false))
    none)
   (some (.bool false))
   none) := evP_of [3] (by kernel_rfl)
theorem fix_tree_Same (x0 : DV) (x1 : DV) : (run cfg).p F_tree_Same [x0, x1] = P_tree_Same (run cfg) x0 x1 :=
  (fix_pure (C := cfg) (f := F_tree_Same) (fn := Try.f27) (c := code_tree_Same) (by kernel_rfl) Try.func27 (by kernel_rfl)).trans (by kernel_rfl)
theorem call_tree_Same (x0 : DV) (x1 : DV) {d : DV} (h : P_tree_Same (run cfg) x0 x1 = some d) : (run cfg).p F_tree_Same [x0, x1] = some d := (fix_tree_Same x0 x1).trans h

noncomputable def code_l05_countPat : Code := Try.f29.body.getD .skip
noncomputable def P_l05_countPat (R : Orc) (x0 : DV) (x1 : DV) : Option DV := evP cfg R fl_l05_countPat (retP cfg.P Try.f29) [] code_l05_countPat (initSt Try.f29 [(x0, .val), (x1, .val)] [])
noncomputable def P_l05_countPat_4h (R : Orc) (t1 : DV) (t5 : DV) (b2 : DV) : Option DV := headP cfg R fl_l05_countPat (retP cfg.P Try.f29) [true, true, false, true, false] code_l05_countPat ⟨spread .undef 36 0 [(1, t1), (5, t5)], spread .val 36 0 [(2, (.loc 2 0))], spread none 36 0 [(2, some [((proj 0 b2), .val), ((proj 1 b2), .val), ((proj 2 b2), .val), ((proj 3 b2), .val), ((proj 4 b2), .val), ((proj 5 b2), .val), ((proj 6 b2), .val)])], []⟩
theorem eq_l05_countPat (R : Orc) (x0 : DV) (x1 : DV) : P_l05_countPat R x0 x1 =
  (og (isAggN 7 x0) <|
  ob (dLenS (proj 5 x0)) fun d1 =>
  ob (dBin .gtr d1 (.int .i64 300)) fun d2 =>
  ogd d2
   (some (.int .i64 401))
   (ob (dLenS (proj 3 x0)) fun d3 =>
   ob (dBin .gtr d3 (.int .i64 300)) fun d4 =>
   oif d4
    (some (.int .i64 401))
    (P_l05_countPat_4h R x1 (.int .i64 0) x0))
   none) := evP_of [] (by kernel_rfl)
theorem eq_l05_countPat_4h (R : Orc) (t1 : DV) (t5 : DV) (b2 : DV) : P_l05_countPat_4h R t1 t5 b2 =
  (ob (dLen (proj 6 b2)) fun d1 =>
  ob (dBin .lss t5 d1) fun d2 =>
  ogd d2
   (ob (dBin .leq t1 (.int .i64 400)) fun d3 =>
   oif d3
    (ob (dIdx 7 (proj 6 b2) t5) fun d4 =>
    ob (dBin .add t1 (.int .i64 1)) fun d5 =>
    ob (R.p F_l05_countPat [(.agg [(proj 0 d4), (proj 1 d4), (proj 2 d4), (proj 3 d4), (proj 4 d4), (proj 5 d4), (proj 6 d4)]), d5]) fun d6 =>
    ob (dBin .add t5 (.int .i64 1)) fun d7 =>
    P_l05_countPat_4h R d6 d7 b2)
    (some t1))
   (some t1)
   none) := headP_of [] (by kernel_rfl)
theorem fix_l05_countPat (x0 : DV) (x1 : DV) : (run cfg).p F_l05_countPat [x0, x1] = P_l05_countPat (run cfg) x0 x1 :=
  (fix_pure (C := cfg) (f := F_l05_countPat) (fn := Try.f29) (c := code_l05_countPat) (by kernel_rfl) Try.func29 (by kernel_rfl)).trans (by kernel_rfl)
theorem call_l05_countPat (x0 : DV) (x1 : DV) {d : DV} (h : P_l05_countPat (run cfg) x0 x1 = some d) : (run cfg).p F_l05_countPat [x0, x1] = some d := (fix_l05_countPat x0 x1).trans h

noncomputable def code_r05_RightPat : Code := Try.f30.body.getD .skip
noncomputable def P_r05_RightPat (R : Orc) (x0 : DV) : Option DV := evP cfg R fl_r05_RightPat (retP cfg.P Try.f30) [] code_r05_RightPat (initSt Try.f30 [(x0, .val)] [])
noncomputable def P_r05_RightPat_5h (R : Orc) (t3 : DV) (t4 : DV) : Option DV := headP cfg R fl_r05_RightPat (retP cfg.P Try.f30) [true, true, true, false, true, false] code_r05_RightPat ⟨spread .undef 24 0 [(3, t3), (4, t4)], spread .val 24 0 [], spread none 24 0 [], []⟩
theorem eq_r05_RightPat (R : Orc) (x0 : DV) : P_r05_RightPat R x0 =
  (og (isAggN 7 x0) <|
  ob (R.p F_r05_pat [(.agg [(proj 0 x0), (proj 1 x0), (proj 2 x0), (proj 3 x0), (proj 4 x0), (proj 5 x0), (proj 6 x0)])]) fun d1 =>
  ob (dUn .not d1) fun d2 =>
  oif d2
   (some (.bool false))
   (ob (R.p F_r05_Names [(.agg [(proj 0 x0), (proj 1 x0), (proj 2 x0), (proj 3 x0), (proj 4 x0), (proj 5 x0), (proj 6 x0)])]) fun d3 =>
   P_r05_RightPat_5h R d3 (.int .i64 0))) := evP_of [] (by kernel_rfl)
theorem eq_r05_RightPat_5h (R : Orc) (t3 : DV) (t4 : DV) : P_r05_RightPat_5h R t3 t4 =
  (ob (dLen t3) fun d1 =>
  ob (dBin .lss t4 d1) fun d2 =>
  oif d2
   (ob (dSlice 1 t3 none (some t4)) fun d3 =>
   ob (dIdx 1 t3 t4) fun d4 =>
   og (isLeaf d4) <|
   ob (R.p F_r05_Has [d3, d4]) fun d5 =>
   oif d5
    (some (.bool false))
    (ob (dBin .add t4 (.int .i64 1)) fun d6 =>
    P_r05_RightPat_5h R t3 d6))
   (some (.bool true))) := headP_of [] (by kernel_rfl)
theorem fix_r05_RightPat (x0 : DV) : (run cfg).p F_r05_RightPat [x0] = P_r05_RightPat (run cfg) x0 :=
  (fix_pure (C := cfg) (f := F_r05_RightPat) (fn := Try.f30) (c := code_r05_RightPat) (by kernel_rfl) Try.func30 (by kernel_rfl)).trans (by kernel_rfl)
theorem call_r05_RightPat (x0 : DV) {d : DV} (h : P_r05_RightPat (run cfg) x0 = some d) : (run cfg).p F_r05_RightPat [x0] = some d := (fix_r05_RightPat x0).trans h

noncomputable def code_r05_names : Code := Try.f31.body.getD .skip
noncomputable def P_r05_names (R : Orc) (x0 : DV) (x1 : DV) (sg : List SObj) : Option (List DV × List SObj) := evP cfg R fl_r05_names (retR cfg.P Try.f31 sig_r05_names) [] code_r05_names (initSt Try.f31 [(x0, .val), (x1, .own)] sg)
noncomputable def P_r05_names_4h (R : Orc) (t1 : DV) (t5 : DV) (b2 : DV) (sg : List SObj) : Option (List DV × List SObj) := headP cfg R fl_r05_names (retR cfg.P Try.f31 sig_r05_names) [true, true, false, true, false] code_r05_names ⟨spread .undef 29 0 [(1, t1), (5, t5)], spread .val 29 0 [(1, .own), (2, (.loc 2 0))], spread none 29 0 [(2, some [((proj 0 b2), .val), ((proj 1 b2), .val), ((proj 2 b2), .val), ((proj 3 b2), .val), ((proj 4 b2), .val), ((proj 5 b2), .val), ((proj 6 b2), .val)])], sg⟩
theorem eq_r05_names (R : Orc) (x0 : DV) (x1 : DV) (sg : List SObj) : P_r05_names R x0 x1 sg =
  (og (isAggN 7 x0) <|
  ob (dBin .eql (proj 0 x0) (.int .i64 2)) fun d1 =>
  oif d1
   (og (isCell (proj 3 x0)) <|
   ob (dApp 1 x1 (.list 1 [(proj 3 x0)])) fun d2 =>
   P_r05_names_4h R d2 (.int .i64 0) x0 sg)
   (P_r05_names_4h R x1 (.int .i64 0) x0 sg)) := evP_of [] (by kernel_rfl)
theorem eq_r05_names_4h (R : Orc) (t1 : DV) (t5 : DV) (b2 : DV) (sg : List SObj) : P_r05_names_4h R t1 t5 b2 sg =
  (ob (dLen (proj 6 b2)) fun d1 =>
  ob (dBin .lss t5 d1) fun d2 =>
  oif d2
   (ob (dIdx 7 (proj 6 b2) t5) fun d3 =>
   ob (R.r F_r05_names [((.agg [(proj 0 d3), (proj 1 d3), (proj 2 d3), (proj 3 d3), (proj 4 d3), (proj 5 d3), (proj 6 d3)]), .val), (t1, .own)] sg) fun q4 =>
   ob (dBin .add t5 (.int .i64 1)) fun d5 =>
   P_r05_names_4h R (q4.1.getD 0 .undef) d5 b2 q4.2)
   (some ([t1], sg))) := headP_of [] (by kernel_rfl)
theorem fix_r05_names (x0 : DV) (x1 : DV) (sg : List SObj) : (run cfg).r F_r05_names [(x0, .val), (x1, .own)] sg = P_r05_names (run cfg) x0 x1 sg :=
  (fix_raw (C := cfg) (f := F_r05_names) (s := sig_r05_names) (fn := Try.f31) (c := code_r05_names) (by kernel_rfl) Try.func31 (by kernel_rfl)).trans (by kernel_rfl)
theorem call_r05_names (x0 : DV) (x1 : DV) (sg : List SObj) {q : List DV × List SObj} (h : P_r05_names (run cfg) x0 x1 sg = some q) : (run cfg).r F_r05_names [(x0, .val), (x1, .own)] sg = some q := (fix_r05_names x0 x1 sg).trans h

noncomputable def code_tree_onePat : Code := Try.f33.body.getD .skip
noncomputable def P_tree_onePat (R : Orc) (x0 : DV) : Option DV := evP cfg R fl_tree_onePat (retP cfg.P Try.f33) [] code_tree_onePat (initSt Try.f33 [(x0, .val)] [])
noncomputable def P_tree_onePat_24 (R : Orc) (t4 : DV) (b1 : DV) (b3_0 : DV) (b3_1 : DV) (b3_2 : DV) (b3_3 : DV) (b3_4 : DV) (b3_5 : DV) (b3_6 : DV) : Option DV := evP cfg R fl_tree_onePat (retP cfg.P Try.f33) [true, true, true] code_tree_onePat ⟨spread .undef 83 0 [(4, t4)], spread .val 83 0 [(1, (.loc 1 0)), (3, (.loc 3 0))], spread none 83 0 [(1, some [((proj 0 b1), .val), ((proj 1 b1), .val), ((proj 2 b1), .val), ((proj 3 b1), .val), ((proj 4 b1), .val), ((proj 5 b1), .val), ((proj 6 b1), .val)]), (3, some [(b3_0, .val), (b3_1, .val), (b3_2, .val), (b3_3, .val), (b3_4, .val), (b3_5, .val), (b3_6, .val)])], []⟩
set_option maxRecDepth 100000 in
theorem eq_tree_onePat (R : Orc) (x0 : DV) : P_tree_onePat R x0 =
  (og (isAggN 7 x0) <|
  og (isCell (proj 0 x0)) <|
  og (isCell (proj 6 x0)) <|
  ob (dBin .eql (proj 0 x0) (.int .i64 1)) fun d1 =>
  oif d1
   (P_tree_onePat_24 R (.int .i64 0) x0 (proj 0 x0) (proj 1 x0) (proj 2 x0) (.str ⟨#[]⟩) (.int .i64 0) (.str ⟨#[]⟩) (proj 6 x0))
   (ob (dBin .eql (proj 0 x0) (.int .i64 6)) fun d2 =>
   oif d2
    (P_tree_onePat_24 R (.int .i64 0) x0 (proj 0 x0) (proj 1 x0) (proj 2 x0) (.str ⟨#[]⟩) (.int .i64 0) (.str ⟨#[]⟩) (proj 6 x0))
    (ob (dBin .eql (proj 0 x0) (.int .i64 8)) fun d3 =>
    oif d3
     (P_tree_onePat_24 R (.int .i64 0) x0 (proj 0 x0) (proj 1 x0) (proj 2 x0) (.str ⟨#[]⟩) (.int .i64 0) (.str ⟨#[]⟩) (proj 6 x0))
     (ob (dBin .eql (proj 0 x0) (.int .i64 2)) fun d4 =>
     oif d4
      (og (isCell (proj 3 x0)) <|
      ob (R.p F_word_Name [(proj 3 x0)]) fun d5 =>
      ob (dUn .not d5) fun d6 =>
      oif d6
       (some (.bool false))
       (P_tree_onePat_24 R (.int .i64 0) x0 (proj 0 x0) (proj 1 x0) (proj 2 x0) (proj 3 x0) (.int .i64 0) (.str ⟨#[]⟩) (proj 6 x0)))
      (ob (dBin .eql (proj 0 x0) (.int .i64 3)) fun d7 =>
      oif d7
       (og (isCell (proj 4 x0)) <|
       P_tree_onePat_24 R (.int .i64 0) x0 (proj 0 x0) (proj 1 x0) (proj 2 x0) (.str ⟨#[]⟩) (proj 4 x0) (.str ⟨#[]⟩) (proj 6 x0))
       (ob (dBin .eql (proj 0 x0) (.int .i64 4)) fun d8 =>
       oif d8
        (og (isCell (proj 4 x0)) <|
        ob (dBin .neq (proj 4 x0) (.int .i64 0)) fun d9 =>
        ogd d9
         (ob (dBin .neq (proj 4 x0) (.int .i64 1)) fun d10 =>
         oif d10
          (some (.bool false))
          (P_tree_onePat_24 R (.int .i64 0) x0 (proj 0 x0) (proj 1 x0) (proj 2 x0) (.str ⟨#[]⟩) (proj 4 x0) (.str ⟨#[]⟩) (proj 6 x0)))
         (P_tree_onePat_24 R (.int .i64 0) x0 (proj 0 x0) (proj 1 x0) (proj 2 x0) (.str ⟨#[]⟩) (proj 4 x0) (.str ⟨#[]⟩) (proj 6 x0))
         none)
        (ob (dBin .eql (proj 0 x0) (.int .i64 5)) fun d11 =>
        oif d11
         (og (isCell (proj 5 x0)) <|
         ob (dLenS (proj 5 x0)) fun d12 =>
         ob (dBin .gtr d12 (.int .i64 200)) fun d13 =>
         oif d13
          (some (.bool false))
          (P_tree_onePat_24 R (.int .i64 0) x0 (proj 0 x0) (proj 1 x0) (proj 2 x0) (.str ⟨#[]⟩) (.int .i64 0) (proj 5 x0) (proj 6 x0)))
         (ob (dBin .eql (proj 0 x0) (.int .i64 7)) fun d14 =>
         oif d14
          (P_tree_onePat_24 R (.int .i64 2) x0 (proj 0 x0) (proj 1 x0) (proj 2 x0) (.str ⟨#[]⟩) (.int .i64 0) (.str ⟨#[]⟩) (proj 6 x0))
          (ob (dBin .eql (proj 0 x0) (.int .i64 9)) fun d15 =>
          oif d15
           (P_tree_onePat_24 R (.int .i64 2) x0 (proj 0 x0) (proj 1 x0) (proj 2 x0) (.str ⟨#[]⟩) (.int .i64 0) (.str ⟨#[]⟩) (proj 6 x0))
           (some (.bool false))))))))))) := evP_of [24] (by kernel_rfl)
set_option maxRecDepth 100000 in
theorem eq_tree_onePat_24 (R : Orc) (t4 : DV) (b1 : DV) (b3_0 : DV) (b3_1 : DV) (b3_2 : DV) (b3_3 : DV) (b3_4 : DV) (b3_5 : DV) (b3_6 : DV) : P_tree_onePat_24 R t4 b1 b3_0 b3_1 b3_2 b3_3 b3_4 b3_5 b3_6 =
  (ob (dLen (proj 6 b1)) fun d1 =>
  ob (dBin .eql d1 t4) fun d2 =>
  ogd d2
   (ob (dBin .eql b3_3 (proj 3 b1)) fun d3 =>
   ogd d3
    (ob (dBin .eql b3_4 (proj 4 b1)) fun d4 =>
    ogd d4
     (ob (dBin .eql b3_5 (proj 5 b1)) fun d5 =>
     some d5)
     (some (.bool false))
     none)
    (some (.bool false))
    none)
   (some (.bool false))
   none) := evP_of [24] (by kernel_rfl)
theorem fix_tree_onePat (x0 : DV) : (run cfg).p F_tree_onePat [x0] = P_tree_onePat (run cfg) x0 :=
  (fix_pure (C := cfg) (f := F_tree_onePat) (fn := Try.f33) (c := code_tree_onePat) (by kernel_rfl) Try.func33 (by kernel_rfl)).trans (by kernel_rfl)
theorem call_tree_onePat (x0 : DV) {d : DV} (h : P_tree_onePat (run cfg) x0 = some d) : (run cfg).p F_tree_onePat [x0] = some d := (fix_tree_onePat x0).trans h

noncomputable def code_l05_name : Code := Try.f34.body.getD .skip
noncomputable def P_l05_name (R : Orc) (x0 : DV) : Option DV := evP cfg R fl_l05_name (retP cfg.P Try.f34) [] code_l05_name (initSt Try.f34 [(x0, .val)] [])
theorem eq_l05_name (R : Orc) (x0 : DV) : P_l05_name R x0 =
  (og (isCell x0) <|
  some (.agg [(.int .i64 1), (.int .i64 0), (.int .i64 0), x0, (.str ⟨#[]⟩), (.int .i64 0), (.str ⟨#[]⟩), (.int .i64 0), (.int .i64 0), (.int .i64 0), (.list 3 []), (.int .i64 0), (.int .i64 0), (.list 3 []), (.list 7 []), (.list 16 [])])) := evP_of [] (by kernel_rfl)
theorem fix_l05_name (x0 : DV) : (run cfg).p F_l05_name [x0] = P_l05_name (run cfg) x0 :=
  (fix_pure (C := cfg) (f := F_l05_name) (fn := Try.f34) (c := code_l05_name) (by kernel_rfl) Try.func34 (by kernel_rfl)).trans (by kernel_rfl)
theorem call_l05_name (x0 : DV) {d : DV} (h : P_l05_name (run cfg) x0 = some d) : (run cfg).p F_l05_name [x0] = some d := (fix_l05_name x0).trans h

noncomputable def code_tree_With : Code := Try.f35.body.getD .skip
noncomputable def P_tree_With (R : Orc) (x0 : DV) (x1 : DV) : Option DV := evP cfg R fl_tree_With (retP cfg.P Try.f35) [] code_tree_With (initSt Try.f35 [(x0, .val), (x1, .val)] [])
noncomputable def P_tree_With_4h (R : Orc) (t1 : DV) (t14 : DV) (t15 : DV) (t16 : DV) (b2 : DV) (b4_0 : DV) (b4_1 : DV) (b4_2 : DV) (b4_3 : DV) (b4_4 : DV) (b4_5 : DV) (b4_6 : DV) (b4_7 : DV) (b4_8 : DV) (b4_9 : DV) (b4_10 : DV) (b4_11 : DV) (b4_12 : DV) (b4_13 : DV) (b4_14 : DV) (b4_15 : DV) : Option DV := headP cfg R fl_tree_With (retP cfg.P Try.f35) [true, true, false, true, false] code_tree_With ⟨spread .undef 39 0 [(1, t1), (14, t14), (15, t15), (16, t16)], spread .val 39 0 [(2, (.loc 2 0)), (4, (.loc 4 0))], spread none 39 0 [(2, some [((proj 0 b2), .val), ((proj 1 b2), .val), ((proj 2 b2), .val), ((proj 3 b2), .val), ((proj 4 b2), .val), ((proj 5 b2), .val), ((proj 6 b2), .val), ((proj 7 b2), .val), ((proj 8 b2), .val), ((proj 9 b2), .val), ((proj 10 b2), .val), ((proj 11 b2), .val), ((proj 12 b2), .val), ((proj 13 b2), .val), ((proj 14 b2), .val), ((proj 15 b2), .val)]), (4, some [(b4_0, .val), (b4_1, .val), (b4_2, .val), (b4_3, .val), (b4_4, .val), (b4_5, .val), (b4_6, .val), (b4_7, .val), (b4_8, .val), (b4_9, .val), (b4_10, .val), (b4_11, .val), (b4_12, .val), (b4_13, .val), (b4_14, .val), (b4_15, .val)])], []⟩
theorem eq_tree_With (R : Orc) (x0 : DV) (x1 : DV) : P_tree_With R x0 x1 =
  (og (isAggN 16 x0) <|
  ob (R.p F_tree_Check [(.agg [(proj 0 x0), (proj 1 x0), (proj 2 x0), (proj 3 x0), (proj 4 x0), (proj 5 x0), (proj 6 x0), (proj 7 x0), (proj 8 x0), (proj 9 x0), (proj 10 x0), (proj 11 x0), (proj 12 x0), (proj 13 x0), (proj 14 x0), (proj 15 x0)])]) fun d1 =>
  ob (dBin .neq d1 (.int .i64 0)) fun d2 =>
  oif d2
   (some (.tup [(.agg [(.int .i64 0), (.int .i64 0), (.int .i64 0), (.str ⟨#[]⟩), (.str ⟨#[]⟩), (.int .i64 0), (.str ⟨#[]⟩), (.int .i64 0), (.int .i64 0), (.int .i64 0), (.list 3 []), (.int .i64 0), (.int .i64 0), (.list 3 []), (.list 7 []), (.list 16 [])]), (.int .i64 1)]))
   (ob (dLen x1) fun d3 =>
   P_tree_With_4h R x1 x1 d3 (.int .i64 0) x0 (.int .i64 0) (.int .i64 0) (.int .i64 0) (.str ⟨#[]⟩) (.str ⟨#[]⟩) (.int .i64 0) (.str ⟨#[]⟩) (.int .i64 0) (.int .i64 0) (.int .i64 0) (.list 3 []) (.int .i64 0) (.int .i64 0) (.list 3 []) (.list 7 []) (.list 16 []))) := evP_of [] (by kernel_rfl)
theorem eq_tree_With_4h (R : Orc) (t1 : DV) (t14 : DV) (t15 : DV) (t16 : DV) (b2 : DV) (b4_0 : DV) (b4_1 : DV) (b4_2 : DV) (b4_3 : DV) (b4_4 : DV) (b4_5 : DV) (b4_6 : DV) (b4_7 : DV) (b4_8 : DV) (b4_9 : DV) (b4_10 : DV) (b4_11 : DV) (b4_12 : DV) (b4_13 : DV) (b4_14 : DV) (b4_15 : DV) : P_tree_With_4h R t1 t14 t15 t16 b2 b4_0 b4_1 b4_2 b4_3 b4_4 b4_5 b4_6 b4_7 b4_8 b4_9 b4_10 b4_11 b4_12 b4_13 b4_14 b4_15 =
  (ob (dBin .lss t16 t15) fun d1 =>
  oif d1
   (ob (dIdx 3 t14 t16) fun d2 =>
   ob (R.p F_tree_closed [(.agg [(proj 0 d2), (proj 1 d2), (proj 2 d2)])]) fun d3 =>
   ob (dUn .not d3) fun d4 =>
   oif d4
    (some (.tup [(.agg [(.int .i64 0), (.int .i64 0), (.int .i64 0), (.str ⟨#[]⟩), (.str ⟨#[]⟩), (.int .i64 0), (.str ⟨#[]⟩), (.int .i64 0), (.int .i64 0), (.int .i64 0), (.list 3 []), (.int .i64 0), (.int .i64 0), (.list 3 []), (.list 7 []), (.list 16 [])]), (.int .i64 1)]))
    (ob (dBin .add t16 (.int .i64 1)) fun d5 =>
    P_tree_With_4h R t1 t14 t15 d5 b2 b4_0 b4_1 b4_2 b4_3 b4_4 b4_5 b4_6 b4_7 b4_8 b4_9 b4_10 b4_11 b4_12 b4_13 b4_14 b4_15))
   (ob (R.p F_tree_Anns [(.agg [(proj 0 b2), (proj 1 b2), (proj 2 b2), (proj 3 b2), (proj 4 b2), (proj 5 b2), (proj 6 b2), (proj 7 b2), (proj 8 b2), (proj 9 b2), (proj 10 b2), (proj 11 b2), (proj 12 b2), (proj 13 b2), (proj 14 b2), (proj 15 b2)])]) fun d6 =>
   ob (dLen d6) fun d7 =>
   ob (dLen t1) fun d8 =>
   ob (dBin .neq d7 d8) fun d9 =>
   oif d9
    (some (.tup [(.agg [(.int .i64 0), (.int .i64 0), (.int .i64 0), (.str ⟨#[]⟩), (.str ⟨#[]⟩), (.int .i64 0), (.str ⟨#[]⟩), (.int .i64 0), (.int .i64 0), (.int .i64 0), (.list 3 []), (.int .i64 0), (.int .i64 0), (.list 3 []), (.list 7 []), (.list 16 [])]), (.int .i64 2)]))
    (ob (R.p F_tree_put [(.agg [(proj 0 b2), (proj 1 b2), (proj 2 b2), (proj 3 b2), (proj 4 b2), (proj 5 b2), (proj 6 b2), (proj 7 b2), (proj 8 b2), (proj 9 b2), (proj 10 b2), (proj 11 b2), (proj 12 b2), (proj 13 b2), (proj 14 b2), (proj 15 b2)]), t1]) fun d10 =>
    ob (dExt 0 d10) fun d11 =>
    ob (dExt 1 d10) fun d12 =>
    og (isAggN 16 d11) <|
    some (.tup [(.agg [(proj 0 d11), (proj 1 d11), (proj 2 d11), (proj 3 d11), (proj 4 d11), (proj 5 d11), (proj 6 d11), (proj 7 d11), (proj 8 d11), (proj 9 d11), (proj 10 d11), (proj 11 d11), (proj 12 d11), (proj 13 d11), (proj 14 d11), (proj 15 d11)]), (.int .i64 0)])))) := headP_of [] (by kernel_rfl)
theorem fix_tree_With (x0 : DV) (x1 : DV) : (run cfg).p F_tree_With [x0, x1] = P_tree_With (run cfg) x0 x1 :=
  (fix_pure (C := cfg) (f := F_tree_With) (fn := Try.f35) (c := code_tree_With) (by kernel_rfl) Try.func35 (by kernel_rfl)).trans (by kernel_rfl)
theorem call_tree_With (x0 : DV) (x1 : DV) {d : DV} (h : P_tree_With (run cfg) x0 x1 = some d) : (run cfg).p F_tree_With [x0, x1] = some d := (fix_tree_With x0 x1).trans h

noncomputable def code_l05_count : Code := Try.f36.body.getD .skip
noncomputable def P_l05_count (R : Orc) (x0 : DV) (x1 : DV) : Option DV := evP cfg R fl_l05_count (retP cfg.P Try.f36) [] code_l05_count (initSt Try.f36 [(x0, .val), (x1, .val)] [])
noncomputable def P_l05_count_5h (R : Orc) (t1 : DV) (t5 : DV) (b2 : DV) : Option DV := headP cfg R fl_l05_count (retP cfg.P Try.f36) [true, true, true, true, false, true, false] code_l05_count ⟨spread .undef 70 0 [(1, t1), (5, t5)], spread .val 70 0 [(2, (.loc 2 0))], spread none 70 0 [(2, some [((proj 0 b2), .val), ((proj 1 b2), .val), ((proj 2 b2), .val), ((proj 3 b2), .val), ((proj 4 b2), .val), ((proj 5 b2), .val), ((proj 6 b2), .val), ((proj 7 b2), .val), ((proj 8 b2), .val), ((proj 9 b2), .val), ((proj 10 b2), .val), ((proj 11 b2), .val), ((proj 12 b2), .val), ((proj 13 b2), .val), ((proj 14 b2), .val), ((proj 15 b2), .val)])], []⟩
noncomputable def P_l05_count_8 (R : Orc) (t1 : DV) (b2 : DV) : Option DV := evP cfg R fl_l05_count (retP cfg.P Try.f36) [true, true, true, true, true] code_l05_count ⟨spread .undef 70 0 [(1, t1)], spread .val 70 0 [(2, (.loc 2 0))], spread none 70 0 [(2, some [((proj 0 b2), .val), ((proj 1 b2), .val), ((proj 2 b2), .val), ((proj 3 b2), .val), ((proj 4 b2), .val), ((proj 5 b2), .val), ((proj 6 b2), .val), ((proj 7 b2), .val), ((proj 8 b2), .val), ((proj 9 b2), .val), ((proj 10 b2), .val), ((proj 11 b2), .val), ((proj 12 b2), .val), ((proj 13 b2), .val), ((proj 14 b2), .val), ((proj 15 b2), .val)])], []⟩
noncomputable def P_l05_count_9h (R : Orc) (t1 : DV) (t6 : DV) (b2 : DV) : Option DV := headP cfg R fl_l05_count (retP cfg.P Try.f36) [true, true, true, true, true, false, true, false] code_l05_count ⟨spread .undef 70 0 [(1, t1), (6, t6)], spread .val 70 0 [(2, (.loc 2 0))], spread none 70 0 [(2, some [((proj 0 b2), .val), ((proj 1 b2), .val), ((proj 2 b2), .val), ((proj 3 b2), .val), ((proj 4 b2), .val), ((proj 5 b2), .val), ((proj 6 b2), .val), ((proj 7 b2), .val), ((proj 8 b2), .val), ((proj 9 b2), .val), ((proj 10 b2), .val), ((proj 11 b2), .val), ((proj 12 b2), .val), ((proj 13 b2), .val), ((proj 14 b2), .val), ((proj 15 b2), .val)])], []⟩
noncomputable def P_l05_count_12 (R : Orc) (t1 : DV) (b2 : DV) : Option DV := evP cfg R fl_l05_count (retP cfg.P Try.f36) [true, true, true, true, true, true] code_l05_count ⟨spread .undef 70 0 [(1, t1)], spread .val 70 0 [(2, (.loc 2 0))], spread none 70 0 [(2, some [((proj 0 b2), .val), ((proj 1 b2), .val), ((proj 2 b2), .val), ((proj 3 b2), .val), ((proj 4 b2), .val), ((proj 5 b2), .val), ((proj 6 b2), .val), ((proj 7 b2), .val), ((proj 8 b2), .val), ((proj 9 b2), .val), ((proj 10 b2), .val), ((proj 11 b2), .val), ((proj 12 b2), .val), ((proj 13 b2), .val), ((proj 14 b2), .val), ((proj 15 b2), .val)])], []⟩
theorem eq_l05_count (R : Orc) (x0 : DV) (x1 : DV) : P_l05_count R x0 x1 =
  (og (isAggN 16 x0) <|
  ob (dBin .add x1 (.int .i64 1)) fun d1 =>
  ob (R.p F_l05_countType [(.agg [(proj 8 x0), (proj 9 x0), (proj 10 x0)]), d1]) fun d2 =>
  ob (R.p F_l05_countType [(.agg [(proj 11 x0), (proj 12 x0), (proj 13 x0)]), d2]) fun d3 =>
  P_l05_count_5h R d3 (.int .i64 0) x0) := evP_of [8, 12] (by kernel_rfl)
theorem eq_l05_count_5h (R : Orc) (t1 : DV) (t5 : DV) (b2 : DV) : P_l05_count_5h R t1 t5 b2 =
  (ob (dLen (proj 14 b2)) fun d1 =>
  ob (dBin .lss t5 d1) fun d2 =>
  ogd d2
   (ob (dBin .leq t1 (.int .i64 400)) fun d3 =>
   oif d3
    (ob (dIdx 7 (proj 14 b2) t5) fun d4 =>
    ob (R.p F_l05_countPat [(.agg [(proj 0 d4), (proj 1 d4), (proj 2 d4), (proj 3 d4), (proj 4 d4), (proj 5 d4), (proj 6 d4)]), t1]) fun d5 =>
    ob (dBin .add t5 (.int .i64 1)) fun d6 =>
    P_l05_count_5h R d5 d6 b2)
    (P_l05_count_8 R t1 b2))
   (P_l05_count_8 R t1 b2)
   none) := headP_of [8, 12] (by kernel_rfl)
theorem eq_l05_count_8 (R : Orc) (t1 : DV) (b2 : DV) : P_l05_count_8 R t1 b2 =
  (P_l05_count_9h R t1 (.int .i64 0) b2) := evP_of [8, 12] (by kernel_rfl)
theorem eq_l05_count_9h (R : Orc) (t1 : DV) (t6 : DV) (b2 : DV) : P_l05_count_9h R t1 t6 b2 =
  (ob (dLen (proj 15 b2)) fun d1 =>
  ob (dBin .lss t6 d1) fun d2 =>
  ogd d2
   (ob (dBin .leq t1 (.int .i64 400)) fun d3 =>
   oif d3
    (ob (dIdx 16 (proj 15 b2) t6) fun d4 =>
    ob (R.p F_l05_count [(.agg [(proj 0 d4), (proj 1 d4), (proj 2 d4), (proj 3 d4), (proj 4 d4), (proj 5 d4), (proj 6 d4), (proj 7 d4), (proj 8 d4), (proj 9 d4), (proj 10 d4), (proj 11 d4), (proj 12 d4), (proj 13 d4), (proj 14 d4), (proj 15 d4)]), t1]) fun d5 =>
    ob (dBin .add t6 (.int .i64 1)) fun d6 =>
    P_l05_count_9h R d5 d6 b2)
    (P_l05_count_12 R t1 b2))
   (P_l05_count_12 R t1 b2)
   none) := headP_of [8, 12] (by kernel_rfl)
theorem eq_l05_count_12 (R : Orc) (t1 : DV) (b2 : DV) : P_l05_count_12 R t1 b2 =
  (ob (dLenS (proj 6 b2)) fun d1 =>
  ob (dBin .gtr d1 (.int .i64 300)) fun d2 =>
  ogd d2
   (some (.int .i64 401))
   (ob (dLenS (proj 3 b2)) fun d3 =>
   ob (dBin .gtr d3 (.int .i64 300)) fun d4 =>
   ogd d4
    (some (.int .i64 401))
    (ob (dLenS (proj 4 b2)) fun d5 =>
    ob (dBin .gtr d5 (.int .i64 300)) fun d6 =>
    oif d6
     (some (.int .i64 401))
     (some t1))
    none)
   none) := evP_of [8, 12] (by kernel_rfl)
theorem fix_l05_count (x0 : DV) (x1 : DV) : (run cfg).p F_l05_count [x0, x1] = P_l05_count (run cfg) x0 x1 :=
  (fix_pure (C := cfg) (f := F_l05_count) (fn := Try.f36) (c := code_l05_count) (by kernel_rfl) Try.func36 (by kernel_rfl)).trans (by kernel_rfl)
theorem call_l05_count (x0 : DV) (x1 : DV) {d : DV} (h : P_l05_count (run cfg) x0 x1 = some d) : (run cfg).p F_l05_count [x0, x1] = some d := (fix_l05_count x0 x1).trans h

noncomputable def code_r05_own : Code := Try.f37.body.getD .skip
noncomputable def P_r05_own (R : Orc) (x0 : DV) : Option DV := evP cfg R fl_r05_own (retP cfg.P Try.f37) [] code_r05_own (initSt Try.f37 [(x0, .val)] [])
noncomputable def P_r05_own_4 (R : Orc) (b1 : DV) (b3 : DV) : Option DV := evP cfg R fl_r05_own (retP cfg.P Try.f37) [true, true, true] code_r05_own ⟨spread .undef 137 0 [], spread .val 137 0 [(1, (.loc 1 0)), (3, (.loc 3 0))], spread none 137 0 [(1, some [((proj 0 b1), .val), ((proj 1 b1), .val), ((proj 2 b1), .val), ((proj 3 b1), .val), ((proj 4 b1), .val), ((proj 5 b1), .val), ((proj 6 b1), .val), ((proj 7 b1), .val), ((proj 8 b1), .val), ((proj 9 b1), .val), ((proj 10 b1), .val), ((proj 11 b1), .val), ((proj 12 b1), .val), ((proj 13 b1), .val), ((proj 14 b1), .val), ((proj 15 b1), .val)]), (3, some [((proj 0 b3), .val), ((proj 1 b3), .val), ((proj 2 b3), .val), ((proj 3 b3), .val), ((proj 4 b3), .val), ((proj 5 b3), .val), ((proj 6 b3), .val), ((proj 7 b3), .val), ((proj 8 b3), .val), ((proj 9 b3), .val), ((proj 10 b3), .val), ((proj 11 b3), .val), ((proj 12 b3), .val), ((proj 13 b3), .val), ((proj 14 b3), .val), ((proj 15 b3), .val)])], []⟩
noncomputable def P_r05_own_6 (R : Orc) (b1 : DV) : Option DV := evP cfg R fl_r05_own (retP cfg.P Try.f37) [true, true, true, true] code_r05_own ⟨spread .undef 137 0 [], spread .val 137 0 [(1, (.loc 1 0))], spread none 137 0 [(1, some [((proj 0 b1), .val), ((proj 1 b1), .val), ((proj 2 b1), .val), ((proj 3 b1), .val), ((proj 4 b1), .val), ((proj 5 b1), .val), ((proj 6 b1), .val), ((proj 7 b1), .val), ((proj 8 b1), .val), ((proj 9 b1), .val), ((proj 10 b1), .val), ((proj 11 b1), .val), ((proj 12 b1), .val), ((proj 13 b1), .val), ((proj 14 b1), .val), ((proj 15 b1), .val)])], []⟩
set_option maxRecDepth 100000 in
theorem eq_r05_own (R : Orc) (x0 : DV) : P_r05_own R x0 =
  (og (isAggN 16 x0) <|
  ob (R.p F_r05_fields [(.agg [(proj 0 x0), (proj 1 x0), (proj 2 x0), (proj 3 x0), (proj 4 x0), (proj 5 x0), (proj 6 x0), (proj 7 x0), (proj 8 x0), (proj 9 x0), (proj 10 x0), (proj 11 x0), (proj 12 x0), (proj 13 x0), (proj 14 x0), (proj 15 x0)])]) fun d1 =>
  ob (dExt 0 d1) fun d2 =>
  ob (dExt 1 d1) fun d3 =>
  og (isAggN 16 d2) <|
  ob (dLen (proj 15 x0)) fun d4 =>
  ob (dBin .neq d3 d4) fun d5 =>
  ogd d5
   (some (.bool false))
   (ob (dBin .neq (proj 3 x0) (proj 3 d2)) fun d6 =>
   ogd d6
    (some (.bool false))
    (ob (dBin .neq (proj 4 x0) (proj 4 d2)) fun d7 =>
    ogd d7
     (some (.bool false))
     (ob (dBin .neq (proj 5 x0) (proj 5 d2)) fun d8 =>
     ogd d8
      (some (.bool false))
      (ob (dBin .neq (proj 6 x0) (proj 6 d2)) fun d9 =>
      ogd d9
       (some (.bool false))
       (ob (dBin .neq (proj 7 x0) (proj 7 d2)) fun d10 =>
       ogd d10
        (some (.bool false))
        (ob (dLen (proj 14 x0)) fun d11 =>
        ob (dLen (proj 14 d2)) fun d12 =>
        ob (dBin .neq d11 d12) fun d13 =>
        oif d13
         (some (.bool false))
         (P_r05_own_4 R x0 d2))
        none)
       none)
      none)
     none)
    none)
   none) := evP_of [4, 6] (by kernel_rfl)
theorem eq_r05_own_4 (R : Orc) (b1 : DV) (b3 : DV) : P_r05_own_4 R b1 b3 =
  (ob (R.p F_r03_Same [(.agg [(proj 8 b1), (proj 9 b1), (proj 10 b1)]), (.agg [(proj 8 b3), (proj 9 b3), (proj 10 b3)])]) fun d1 =>
  ob (dUn .not d1) fun d2 =>
  ogd d2
   (some (.bool false))
   (ob (R.p F_r03_Same [(.agg [(proj 11 b1), (proj 12 b1), (proj 13 b1)]), (.agg [(proj 11 b3), (proj 12 b3), (proj 13 b3)])]) fun d3 =>
   ob (dUn .not d3) fun d4 =>
   oif d4
    (some (.bool false))
    (P_r05_own_6 R b1))
   none) := evP_of [4, 6] (by kernel_rfl)
set_option maxRecDepth 100000 in
theorem eq_r05_own_6 (R : Orc) (b1 : DV) : P_r05_own_6 R b1 =
  (ob (dBin .neq (proj 0 b1) (.int .i64 15)) fun d1 =>
  ob (R.p F_r05_note [(.agg [(proj 8 b1), (proj 9 b1), (proj 10 b1)]), d1]) fun d2 =>
  ob (dUn .not d2) fun d3 =>
  ogd d3
   (some (.bool false))
   (ob (R.p F_r05_note [(.agg [(proj 11 b1), (proj 12 b1), (proj 13 b1)]), (.bool true)]) fun d4 =>
   ob (dUn .not d4) fun d5 =>
   oif d5
    (some (.bool false))
    (ob (dBin .eql (proj 0 b1) (.int .i64 1)) fun d6 =>
    oif d6
     (ob (R.p F_r01_Name [(proj 3 b1)]) fun d7 =>
     some d7)
     (ob (dBin .eql (proj 0 b1) (.int .i64 9)) fun d8 =>
     oif d8
      (ob (R.p F_r01_Name [(proj 3 b1)]) fun d9 =>
      some d9)
      (ob (dBin .eql (proj 0 b1) (.int .i64 11)) fun d10 =>
      oif d10
       (ob (R.p F_r01_Name [(proj 3 b1)]) fun d11 =>
       some d11)
       (ob (dBin .eql (proj 0 b1) (.int .i64 12)) fun d12 =>
       oif d12
        (ob (R.p F_r01_Name [(proj 3 b1)]) fun d13 =>
        ogd d13
         (ob (R.p F_r01_Name [(proj 4 b1)]) fun d14 =>
         some d14)
         (some (.bool false))
         none)
        (ob (dBin .eql (proj 0 b1) (.int .i64 3)) fun d15 =>
        oif d15
         (ob (dBin .eql (proj 5 b1) (.int .i64 0)) fun d16 =>
         ogd d16
          (some (.bool true))
          (ob (dBin .eql (proj 5 b1) (.int .i64 1)) fun d17 =>
          some d17)
          none)
         (ob (dBin .eql (proj 0 b1) (.int .i64 4)) fun d18 =>
         oif d18
          (ob (dLenS (proj 6 b1)) fun d19 =>
          ob (dBin .leq d19 (.int .i64 200)) fun d20 =>
          some d20)
          (ob (dBin .eql (proj 0 b1) (.int .i64 14)) fun d21 =>
          oif d21
           (ob (dLen (proj 14 b1)) fun d22 =>
           ob (dBin .gtr d22 (.int .i64 0)) fun d23 =>
           some d23)
           (ob (dBin .eql (proj 0 b1) (.int .i64 16)) fun d24 =>
           oif d24
            (ob (dBin .geq (proj 7 b1) (.int .i64 1)) fun d25 =>
            ogd d25
             (ob (dBin .leq (proj 7 b1) (.int .i64 7)) fun d26 =>
             some d26)
             (some (.bool false))
             none)
            (some (.bool true)))))))))))
   none) := evP_of [4, 6] (by kernel_rfl)
theorem fix_r05_own (x0 : DV) : (run cfg).p F_r05_own [x0] = P_r05_own (run cfg) x0 :=
  (fix_pure (C := cfg) (f := F_r05_own) (fn := Try.f37) (c := code_r05_own) (by kernel_rfl) Try.func37 (by kernel_rfl)).trans (by kernel_rfl)
theorem call_r05_own (x0 : DV) {d : DV} (h : P_r05_own (run cfg) x0 = some d) : (run cfg).p F_r05_own [x0] = some d := (fix_r05_own x0).trans h

end Go.Su

/-
  Equations of the program's functions: by program.
-/
namespace Go.Su
open Go.Proofs
set_option linter.unusedVariables false

noncomputable def code_tree_scope_look : Code := Try.f38.body.getD .skip
noncomputable def P_tree_scope_look (R : Orc) (x0 : Nat) (x1 : DV) (sg : List SObj) : Option (List DV × List SObj) := evP cfg R fl_tree_scope_look (retR cfg.P Try.f38 sig_tree_scope_look) [] code_tree_scope_look (initSt Try.f38 [(.undef, (.ptr x0 0)), (x1, .val)] sg)
noncomputable def P_tree_scope_look_21h (R : Orc) (t0i : Nat) (t3i : Nat) (t100 : DV) (t101 : DV) (t102 : DV) (sg : List SObj) : Option (List DV × List SObj) := headP cfg R fl_tree_scope_look (retR cfg.P Try.f38 sig_tree_scope_look) [true, true, false, true, true, true, true, true, true, true, true, true, false, true, true, false] code_tree_scope_look ⟨spread .undef 128 0 [(100, t100), (101, t101), (102, t102)], spread .val 128 0 [(0, (.ptr t0i 0)), (3, (.ptr t3i 0))], spread none 128 0 [], sg⟩
noncomputable def P_tree_scope_look_3h (R : Orc) (t0i : Nat) (t13 : DV) (t14 : DV) (t15 : DV) (sg : List SObj) : Option (List DV × List SObj) := headP cfg R fl_tree_scope_look (retR cfg.P Try.f38 sig_tree_scope_look) [true, true, false, true, true, true, true, true, true, true, true, true, true, true, false] code_tree_scope_look ⟨spread .undef 128 0 [(13, t13), (14, t14), (15, t15)], spread .val 128 0 [(0, (.ptr t0i 0))], spread none 128 0 [], sg⟩
noncomputable def P_tree_scope_look_r0 (R : Orc) (t0i : Nat) (t3i : Nat) (t4 : DV) (t5i : Nat) (t6i : Nat) (t100 : DV) (t101 : DV) (t102 : DV) (t104 : DV) (t105 : DV) (t106 : DV) (t107 : DV) (t108c0 : Nat) (sg : List SObj) : Option (List DV × List SObj) := evP cfg R fl_tree_scope_look (retR cfg.P Try.f38 sig_tree_scope_look) [true, true, false, true, true, true, true, true, true, true, true, true, false, true, true, false, false, true, true, false, false, true, true, false, true, false] code_tree_scope_look ⟨spread .undef 128 0 [(4, t4), (100, t100), (101, t101), (102, t102), (103, (.bool true)), (104, t104), (105, t105), (106, t106), (107, t107)], spread .val 128 0 [(0, (.ptr t0i 0)), (3, (.ptr t3i 0)), (5, (.ptr t5i 0)), (6, (.ptr t6i 0)), (105, (.rop true 7 0)), (108, (.fn 57 [(t108c0, 0)]))], spread none 128 0 [], sg⟩
noncomputable def rcode_tree_scope_look_r0 : Code := match (sub [true, true, false, true, true, true, true, true, true, true, true, true, false, true, true, false, false, true, true, false, false, true, true, false, true, false] code_tree_scope_look []).1 with
  | .rangeFunc _ _ a b => .seq a b
  | c => c
noncomputable def X_tree_scope_look_r0 (R : Orc) (t0i : Nat) (t3i : Nat) (t4 : DV) (t5i : Nat) (t6i : Nat) (t100 : DV) (t101 : DV) (t102 : DV) (t104 : DV) (t105 : DV) (t106 : DV) (t107 : DV) (t108c0 : Nat) (o : Out) (sg : List SObj) : Option (List DV × List SObj) := konP cfg R fl_tree_scope_look (retR cfg.P Try.f38 sig_tree_scope_look) [true, true, false, true, true, true, true, true, true, true, true, true, false, true, true, false, false, true, true, false, false, true, true, false, true, false] code_tree_scope_look o (outerSt ⟨spread .undef 128 0 [(4, t4), (100, t100), (101, t101), (102, t102), (103, (.bool true)), (104, t104), (105, t105), (106, t106), (107, t107)], spread .val 128 0 [(0, (.ptr t0i 0)), (3, (.ptr t3i 0)), (5, (.ptr t5i 0)), (6, (.ptr t6i 0)), (105, (.rop true 7 0)), (108, (.fn 57 [(t108c0, 0)]))], spread none 128 0 [], []⟩ sg)
noncomputable def B_tree_scope_look_r0 (R : Orc) (t0i : Nat) (t3i : Nat) (t4 : DV) (t5i : Nat) (t6i : Nat) (t100 : DV) (t101 : DV) (t102 : DV) (t104 : DV) (t105 : DV) (t106 : DV) (t107 : DV) (t108c0 : Nat) (I : List SObj → Option (List DV × List SObj)) (x : DV) (sg : List SObj) : Option (List DV × List SObj) := evP cfg R fl_tree_scope_look (kr I (X_tree_scope_look_r0 R t0i t3i t4 t5i t6i t100 t101 t102 t104 t105 t106 t107 t108c0)) [] rcode_tree_scope_look_r0 ⟨spread .undef 128 0 [(109, x)], spread .val 128 0 [(6, (.ptr t6i 0))], spread none 128 0 [], sg⟩
noncomputable def I_tree_scope_look_r0 (R : Orc) (t0i : Nat) (t3i : Nat) (t4 : DV) (t5i : Nat) (t6i : Nat) (t100 : DV) (t101 : DV) (t102 : DV) (t104 : DV) (t105 : DV) (t106 : DV) (t107 : DV) (t108c0 : Nat) : List DV → List SObj → Option (List DV × List SObj) := foldIt (fun x I sg => B_tree_scope_look_r0 R t0i t3i t4 t5i t6i t100 t101 t102 t104 t105 t106 t107 t108c0 I x sg) (X_tree_scope_look_r0 R t0i t3i t4 t5i t6i t100 t101 t102 t104 t105 t106 t107 t108c0 .normal)
set_option maxRecDepth 100000 in
theorem eq_tree_scope_look (R : Orc) (x0 : Nat) (x1 : DV) (sg : List SObj) : P_tree_scope_look R x0 x1 sg =
  (og (isAggN 16 x1) <|
  ob (sgBox (sg ++ [SObj.box [((proj 0 x1), .val), ((proj 1 x1), .val), ((proj 2 x1), .val), ((proj 3 x1), .val), ((proj 4 x1), .val), ((proj 5 x1), .val), ((proj 6 x1), .val), ((proj 7 x1), .val), ((proj 8 x1), .val), ((proj 9 x1), .val), ((proj 10 x1), .val), ((proj 11 x1), .val), ((proj 12 x1), .val), ((proj 13 x1), .val), ((proj 14 x1), .val), ((proj 15 x1), .val)]]) sg.length) fun c1 =>
  ob (cellDat c1 0) fun d2 =>
  ob (dBin .eql d2 (.int .i64 1)) fun d3 =>
  oif d3
   (ob (sgBox (sg ++ [SObj.box [((proj 0 x1), .val), ((proj 1 x1), .val), ((proj 2 x1), .val), ((proj 3 x1), .val), ((proj 4 x1), .val), ((proj 5 x1), .val), ((proj 6 x1), .val), ((proj 7 x1), .val), ((proj 8 x1), .val), ((proj 9 x1), .val), ((proj 10 x1), .val), ((proj 11 x1), .val), ((proj 12 x1), .val), ((proj 13 x1), .val), ((proj 14 x1), .val), ((proj 15 x1), .val)]]) x0) fun c4 =>
   ob (cellMap c4 0) fun i5 =>
   ob (sgBox (sg ++ [SObj.box [((proj 0 x1), .val), ((proj 1 x1), .val), ((proj 2 x1), .val), ((proj 3 x1), .val), ((proj 4 x1), .val), ((proj 5 x1), .val), ((proj 6 x1), .val), ((proj 7 x1), .val), ((proj 8 x1), .val), ((proj 9 x1), .val), ((proj 10 x1), .val), ((proj 11 x1), .val), ((proj 12 x1), .val), ((proj 13 x1), .val), ((proj 14 x1), .val), ((proj 15 x1), .val)]]) sg.length) fun c6 =>
   ob (cellDat c6 3) fun d7 =>
   og (isKey true d7 && true) <|
   ob (sgMap (sg ++ [SObj.box [((proj 0 x1), .val), ((proj 1 x1), .val), ((proj 2 x1), .val), ((proj 3 x1), .val), ((proj 4 x1), .val), ((proj 5 x1), .val), ((proj 6 x1), .val), ((proj 7 x1), .val), ((proj 8 x1), .val), ((proj 9 x1), .val), ((proj 10 x1), .val), ((proj 11 x1), .val), ((proj 12 x1), .val), ((proj 13 x1), .val), ((proj 14 x1), .val), ((proj 15 x1), .val)]]) i5) fun m8 =>
   og (m8.1 == true) <|
   ob (dBin .eql ((mGet m8.2 d7).getD (.int .i64 0)) (.int .i64 0)) fun d9 =>
   oif d9
    (ob (sgBox (sg ++ [SObj.box [((proj 0 x1), .val), ((proj 1 x1), .val), ((proj 2 x1), .val), ((proj 3 x1), .val), ((proj 4 x1), .val), ((proj 5 x1), .val), ((proj 6 x1), .val), ((proj 7 x1), .val), ((proj 8 x1), .val), ((proj 9 x1), .val), ((proj 10 x1), .val), ((proj 11 x1), .val), ((proj 12 x1), .val), ((proj 13 x1), .val), ((proj 14 x1), .val), ((proj 15 x1), .val)]]) x0) fun c10 =>
    ob (cellMap c10 1) fun i11 =>
    ob (sgBox (sg ++ [SObj.box [((proj 0 x1), .val), ((proj 1 x1), .val), ((proj 2 x1), .val), ((proj 3 x1), .val), ((proj 4 x1), .val), ((proj 5 x1), .val), ((proj 6 x1), .val), ((proj 7 x1), .val), ((proj 8 x1), .val), ((proj 9 x1), .val), ((proj 10 x1), .val), ((proj 11 x1), .val), ((proj 12 x1), .val), ((proj 13 x1), .val), ((proj 14 x1), .val), ((proj 15 x1), .val)]]) sg.length) fun c12 =>
    ob (cellDat c12 3) fun d13 =>
    og (isKey true d13 && true) <|
    ob (sgMap (sg ++ [SObj.box [((proj 0 x1), .val), ((proj 1 x1), .val), ((proj 2 x1), .val), ((proj 3 x1), .val), ((proj 4 x1), .val), ((proj 5 x1), .val), ((proj 6 x1), .val), ((proj 7 x1), .val), ((proj 8 x1), .val), ((proj 9 x1), .val), ((proj 10 x1), .val), ((proj 11 x1), .val), ((proj 12 x1), .val), ((proj 13 x1), .val), ((proj 14 x1), .val), ((proj 15 x1), .val)]]) i11) fun m14 =>
    og (m14.1 == true) <|
    ob (dBin .add ((mGet m14.2 d13).getD (.int .i64 0)) (.int .i64 1)) fun d15 =>
    og (isKey true d13 && true && true) <|
    ob (sgMap (sg ++ [SObj.box [((proj 0 x1), .val), ((proj 1 x1), .val), ((proj 2 x1), .val), ((proj 3 x1), .val), ((proj 4 x1), .val), ((proj 5 x1), .val), ((proj 6 x1), .val), ((proj 7 x1), .val), ((proj 8 x1), .val), ((proj 9 x1), .val), ((proj 10 x1), .val), ((proj 11 x1), .val), ((proj 12 x1), .val), ((proj 13 x1), .val), ((proj 14 x1), .val), ((proj 15 x1), .val)]]) i11) fun m16 =>
    og (m16.1 == true) <|
    some ([], ((sg ++ [SObj.box [((proj 0 x1), .val), ((proj 1 x1), .val), ((proj 2 x1), .val), ((proj 3 x1), .val), ((proj 4 x1), .val), ((proj 5 x1), .val), ((proj 6 x1), .val), ((proj 7 x1), .val), ((proj 8 x1), .val), ((proj 9 x1), .val), ((proj 10 x1), .val), ((proj 11 x1), .val), ((proj 12 x1), .val), ((proj 13 x1), .val), ((proj 14 x1), .val), ((proj 15 x1), .val)]]).set i11 (.map true (mSet m16.2 d13 d15)))))
    (some ([], (sg ++ [SObj.box [((proj 0 x1), .val), ((proj 1 x1), .val), ((proj 2 x1), .val), ((proj 3 x1), .val), ((proj 4 x1), .val), ((proj 5 x1), .val), ((proj 6 x1), .val), ((proj 7 x1), .val), ((proj 8 x1), .val), ((proj 9 x1), .val), ((proj 10 x1), .val), ((proj 11 x1), .val), ((proj 12 x1), .val), ((proj 13 x1), .val), ((proj 14 x1), .val), ((proj 15 x1), .val)]]))))
   (ob (dBin .eql d2 (.int .i64 9)) fun d17 =>
   oif d17
    (ob (sgBox (sg ++ [SObj.box [((proj 0 x1), .val), ((proj 1 x1), .val), ((proj 2 x1), .val), ((proj 3 x1), .val), ((proj 4 x1), .val), ((proj 5 x1), .val), ((proj 6 x1), .val), ((proj 7 x1), .val), ((proj 8 x1), .val), ((proj 9 x1), .val), ((proj 10 x1), .val), ((proj 11 x1), .val), ((proj 12 x1), .val), ((proj 13 x1), .val), ((proj 14 x1), .val), ((proj 15 x1), .val)]]) sg.length) fun c18 =>
    ob (cellDat c18 15) fun d19 =>
    ob (dIdx 16 d19 (.int .i64 0)) fun d20 =>
    ob (sgBox (sg ++ [SObj.box [((proj 0 x1), .val), ((proj 1 x1), .val), ((proj 2 x1), .val), ((proj 3 x1), .val), ((proj 4 x1), .val), ((proj 5 x1), .val), ((proj 6 x1), .val), ((proj 7 x1), .val), ((proj 8 x1), .val), ((proj 9 x1), .val), ((proj 10 x1), .val), ((proj 11 x1), .val), ((proj 12 x1), .val), ((proj 13 x1), .val), ((proj 14 x1), .val), ((proj 15 x1), .val)]]) sg.length) fun c21 =>
    ob (cellDat c21 3) fun d22 =>
    og (isCell d22) <|
    ob (R.r F_tree_scope_with [(.undef, (.ptr x0 0)), ((.agg [(proj 0 d20), (proj 1 d20), (proj 2 d20), (proj 3 d20), (proj 4 d20), (proj 5 d20), (proj 6 d20), (proj 7 d20), (proj 8 d20), (proj 9 d20), (proj 10 d20), (proj 11 d20), (proj 12 d20), (proj 13 d20), (proj 14 d20), (proj 15 d20)]), .val), ((.list 1 [d22]), .val)] (sg ++ [SObj.box [((proj 0 x1), .val), ((proj 1 x1), .val), ((proj 2 x1), .val), ((proj 3 x1), .val), ((proj 4 x1), .val), ((proj 5 x1), .val), ((proj 6 x1), .val), ((proj 7 x1), .val), ((proj 8 x1), .val), ((proj 9 x1), .val), ((proj 10 x1), .val), ((proj 11 x1), .val), ((proj 12 x1), .val), ((proj 13 x1), .val), ((proj 14 x1), .val), ((proj 15 x1), .val)]])) fun q23 =>
    some ([], q23.2))
    (ob (dBin .eql d2 (.int .i64 11)) fun d24 =>
    oif d24
     (ob (sgBox (sg ++ [SObj.box [((proj 0 x1), .val), ((proj 1 x1), .val), ((proj 2 x1), .val), ((proj 3 x1), .val), ((proj 4 x1), .val), ((proj 5 x1), .val), ((proj 6 x1), .val), ((proj 7 x1), .val), ((proj 8 x1), .val), ((proj 9 x1), .val), ((proj 10 x1), .val), ((proj 11 x1), .val), ((proj 12 x1), .val), ((proj 13 x1), .val), ((proj 14 x1), .val), ((proj 15 x1), .val)]]) sg.length) fun c25 =>
     ob (cellDat c25 15) fun d26 =>
     ob (dIdx 16 d26 (.int .i64 0)) fun d27 =>
     ob (R.r F_tree_scope_with [(.undef, (.ptr x0 0)), ((.agg [(proj 0 d27), (proj 1 d27), (proj 2 d27), (proj 3 d27), (proj 4 d27), (proj 5 d27), (proj 6 d27), (proj 7 d27), (proj 8 d27), (proj 9 d27), (proj 10 d27), (proj 11 d27), (proj 12 d27), (proj 13 d27), (proj 14 d27), (proj 15 d27)]), .val), ((.list 1 []), .val)] (sg ++ [SObj.box [((proj 0 x1), .val), ((proj 1 x1), .val), ((proj 2 x1), .val), ((proj 3 x1), .val), ((proj 4 x1), .val), ((proj 5 x1), .val), ((proj 6 x1), .val), ((proj 7 x1), .val), ((proj 8 x1), .val), ((proj 9 x1), .val), ((proj 10 x1), .val), ((proj 11 x1), .val), ((proj 12 x1), .val), ((proj 13 x1), .val), ((proj 14 x1), .val), ((proj 15 x1), .val)]])) fun q28 =>
     ob (sgBox q28.2 sg.length) fun c29 =>
     ob (cellDat c29 15) fun d30 =>
     ob (dIdx 16 d30 (.int .i64 1)) fun d31 =>
     ob (sgBox q28.2 sg.length) fun c32 =>
     ob (cellDat c32 3) fun d33 =>
     og (isCell d33) <|
     ob (R.r F_tree_scope_with [(.undef, (.ptr x0 0)), ((.agg [(proj 0 d31), (proj 1 d31), (proj 2 d31), (proj 3 d31), (proj 4 d31), (proj 5 d31), (proj 6 d31), (proj 7 d31), (proj 8 d31), (proj 9 d31), (proj 10 d31), (proj 11 d31), (proj 12 d31), (proj 13 d31), (proj 14 d31), (proj 15 d31)]), .val), ((.list 1 [d33]), .val)] q28.2) fun q34 =>
     some ([], q34.2))
     (ob (dBin .eql d2 (.int .i64 12)) fun d35 =>
     oif d35
      (ob (sgBox (sg ++ [SObj.box [((proj 0 x1), .val), ((proj 1 x1), .val), ((proj 2 x1), .val), ((proj 3 x1), .val), ((proj 4 x1), .val), ((proj 5 x1), .val), ((proj 6 x1), .val), ((proj 7 x1), .val), ((proj 8 x1), .val), ((proj 9 x1), .val), ((proj 10 x1), .val), ((proj 11 x1), .val), ((proj 12 x1), .val), ((proj 13 x1), .val), ((proj 14 x1), .val), ((proj 15 x1), .val)]]) sg.length) fun c36 =>
      ob (cellDat c36 15) fun d37 =>
      ob (dIdx 16 d37 (.int .i64 0)) fun d38 =>
      ob (sgBox (sg ++ [SObj.box [((proj 0 x1), .val), ((proj 1 x1), .val), ((proj 2 x1), .val), ((proj 3 x1), .val), ((proj 4 x1), .val), ((proj 5 x1), .val), ((proj 6 x1), .val), ((proj 7 x1), .val), ((proj 8 x1), .val), ((proj 9 x1), .val), ((proj 10 x1), .val), ((proj 11 x1), .val), ((proj 12 x1), .val), ((proj 13 x1), .val), ((proj 14 x1), .val), ((proj 15 x1), .val)]]) sg.length) fun c39 =>
      ob (cellDat c39 3) fun d40 =>
      ob (sgBox (sg ++ [SObj.box [((proj 0 x1), .val), ((proj 1 x1), .val), ((proj 2 x1), .val), ((proj 3 x1), .val), ((proj 4 x1), .val), ((proj 5 x1), .val), ((proj 6 x1), .val), ((proj 7 x1), .val), ((proj 8 x1), .val), ((proj 9 x1), .val), ((proj 10 x1), .val), ((proj 11 x1), .val), ((proj 12 x1), .val), ((proj 13 x1), .val), ((proj 14 x1), .val), ((proj 15 x1), .val)]]) sg.length) fun c41 =>
      ob (cellDat c41 4) fun d42 =>
      og (isCell d40) <|
      og (isCell d42) <|
      ob (R.r F_tree_scope_with [(.undef, (.ptr x0 0)), ((.agg [(proj 0 d38), (proj 1 d38), (proj 2 d38), (proj 3 d38), (proj 4 d38), (proj 5 d38), (proj 6 d38), (proj 7 d38), (proj 8 d38), (proj 9 d38), (proj 10 d38), (proj 11 d38), (proj 12 d38), (proj 13 d38), (proj 14 d38), (proj 15 d38)]), .val), ((.list 1 [d40, d42]), .val)] (sg ++ [SObj.box [((proj 0 x1), .val), ((proj 1 x1), .val), ((proj 2 x1), .val), ((proj 3 x1), .val), ((proj 4 x1), .val), ((proj 5 x1), .val), ((proj 6 x1), .val), ((proj 7 x1), .val), ((proj 8 x1), .val), ((proj 9 x1), .val), ((proj 10 x1), .val), ((proj 11 x1), .val), ((proj 12 x1), .val), ((proj 13 x1), .val), ((proj 14 x1), .val), ((proj 15 x1), .val)]])) fun q43 =>
      ob (sgBox q43.2 sg.length) fun c44 =>
      ob (cellDat c44 15) fun d45 =>
      ob (dIdx 16 d45 (.int .i64 1)) fun d46 =>
      ob (sgBox q43.2 sg.length) fun c47 =>
      ob (cellDat c47 3) fun d48 =>
      og (isCell d48) <|
      ob (R.r F_tree_scope_with [(.undef, (.ptr x0 0)), ((.agg [(proj 0 d46), (proj 1 d46), (proj 2 d46), (proj 3 d46), (proj 4 d46), (proj 5 d46), (proj 6 d46), (proj 7 d46), (proj 8 d46), (proj 9 d46), (proj 10 d46), (proj 11 d46), (proj 12 d46), (proj 13 d46), (proj 14 d46), (proj 15 d46)]), .val), ((.list 1 [d48]), .val)] q43.2) fun q49 =>
      some ([], q49.2))
      (ob (dBin .eql d2 (.int .i64 14)) fun d50 =>
      oif d50
       (ob (sgBox (sg ++ [SObj.box [((proj 0 x1), .val), ((proj 1 x1), .val), ((proj 2 x1), .val), ((proj 3 x1), .val), ((proj 4 x1), .val), ((proj 5 x1), .val), ((proj 6 x1), .val), ((proj 7 x1), .val), ((proj 8 x1), .val), ((proj 9 x1), .val), ((proj 10 x1), .val), ((proj 11 x1), .val), ((proj 12 x1), .val), ((proj 13 x1), .val), ((proj 14 x1), .val), ((proj 15 x1), .val)]]) sg.length) fun c51 =>
       ob (cellDat c51 15) fun d52 =>
       ob (dIdx 16 d52 (.int .i64 0)) fun d53 =>
       ob (R.r F_tree_scope_with [(.undef, (.ptr x0 0)), ((.agg [(proj 0 d53), (proj 1 d53), (proj 2 d53), (proj 3 d53), (proj 4 d53), (proj 5 d53), (proj 6 d53), (proj 7 d53), (proj 8 d53), (proj 9 d53), (proj 10 d53), (proj 11 d53), (proj 12 d53), (proj 13 d53), (proj 14 d53), (proj 15 d53)]), .val), ((.list 1 []), .val)] (sg ++ [SObj.box [((proj 0 x1), .val), ((proj 1 x1), .val), ((proj 2 x1), .val), ((proj 3 x1), .val), ((proj 4 x1), .val), ((proj 5 x1), .val), ((proj 6 x1), .val), ((proj 7 x1), .val), ((proj 8 x1), .val), ((proj 9 x1), .val), ((proj 10 x1), .val), ((proj 11 x1), .val), ((proj 12 x1), .val), ((proj 13 x1), .val), ((proj 14 x1), .val), ((proj 15 x1), .val)]])) fun q54 =>
       ob (sgBox q54.2 sg.length) fun c55 =>
       ob (cellDat c55 14) fun d56 =>
       ob (dLen d56) fun d57 =>
       P_tree_scope_look_21h R x0 (sg.length) d56 d57 (.int .i64 0) q54.2)
       (ob (sgBox (sg ++ [SObj.box [((proj 0 x1), .val), ((proj 1 x1), .val), ((proj 2 x1), .val), ((proj 3 x1), .val), ((proj 4 x1), .val), ((proj 5 x1), .val), ((proj 6 x1), .val), ((proj 7 x1), .val), ((proj 8 x1), .val), ((proj 9 x1), .val), ((proj 10 x1), .val), ((proj 11 x1), .val), ((proj 12 x1), .val), ((proj 13 x1), .val), ((proj 14 x1), .val), ((proj 15 x1), .val)]]) sg.length) fun c58 =>
       ob (cellDat c58 15) fun d59 =>
       ob (dLen d59) fun d60 =>
       P_tree_scope_look_3h R x0 d59 d60 (.int .i64 0) (sg ++ [SObj.box [((proj 0 x1), .val), ((proj 1 x1), .val), ((proj 2 x1), .val), ((proj 3 x1), .val), ((proj 4 x1), .val), ((proj 5 x1), .val), ((proj 6 x1), .val), ((proj 7 x1), .val), ((proj 8 x1), .val), ((proj 9 x1), .val), ((proj 10 x1), .val), ((proj 11 x1), .val), ((proj 12 x1), .val), ((proj 13 x1), .val), ((proj 14 x1), .val), ((proj 15 x1), .val)]]))))))) := evP_of [] (by kernel_rfl)
theorem eq_tree_scope_look_21h (R : Orc) (t0i : Nat) (t3i : Nat) (t100 : DV) (t101 : DV) (t102 : DV) (sg : List SObj) : P_tree_scope_look_21h R t0i t3i t100 t101 t102 sg =
  (ob (dBin .lss t102 t101) fun d1 =>
  oif d1
   (ob (dIdx 7 t100 t102) fun d2 =>
   ob (sgBox (sg ++ [SObj.box [((.int .i64 0), .val), ((.int .i64 0), .val), ((.int .i64 0), .val), ((.str ⟨#[]⟩), .val), ((.int .i64 0), .val), ((.str ⟨#[]⟩), .val), ((.list 7 []), .full)]]) sg.length) fun c3 =>
   if 0 + 7 ≤ c3.length then
    (ob (sgBox (((sg ++ [SObj.box [((.int .i64 0), .val), ((.int .i64 0), .val), ((.int .i64 0), .val), ((.str ⟨#[]⟩), .val), ((.int .i64 0), .val), ((.str ⟨#[]⟩), .val), ((.list 7 []), .full)]]).set sg.length (SObj.box (putAt c3 0 [((proj 0 d2), .val), ((proj 1 d2), .val), ((proj 2 d2), .val), ((proj 3 d2), .val), ((proj 4 d2), .val), ((proj 5 d2), .val), ((proj 6 d2), .val)]))) ++ [SObj.box [((.list 1 []), .full)]]) sg.length) fun c4 =>
    ob (segDat 0 7 c4) fun e5 =>
    ob (aggD (.agg e5)) fun c6 =>
    og (true && c6.length == 7) <|
    P_tree_scope_look_r0 R t0i t3i t102 (sg.length) ((((sg ++ [SObj.box [((.int .i64 0), .val), ((.int .i64 0), .val), ((.int .i64 0), .val), ((.str ⟨#[]⟩), .val), ((.int .i64 0), .val), ((.str ⟨#[]⟩), .val), ((.list 7 []), .full)]]).set sg.length (SObj.box (putAt c3 0 [((proj 0 d2), .val), ((proj 1 d2), .val), ((proj 2 d2), .val), ((proj 3 d2), .val), ((proj 4 d2), .val), ((proj 5 d2), .val), ((proj 6 d2), .val)])))).length) t100 t101 t102 t102 d2 (.agg [(proj 0 d2), (proj 1 d2), (proj 2 d2), (proj 3 d2), (proj 4 d2), (proj 5 d2), (proj 6 d2)]) (.agg e5) (((((sg ++ [SObj.box [((.int .i64 0), .val), ((.int .i64 0), .val), ((.int .i64 0), .val), ((.str ⟨#[]⟩), .val), ((.int .i64 0), .val), ((.str ⟨#[]⟩), .val), ((.list 7 []), .full)]]).set sg.length (SObj.box (putAt c3 0 [((proj 0 d2), .val), ((proj 1 d2), .val), ((proj 2 d2), .val), ((proj 3 d2), .val), ((proj 4 d2), .val), ((proj 5 d2), .val), ((proj 6 d2), .val)]))) ++ [SObj.box [((.list 1 []), .full)]])).length) ((((sg ++ [SObj.box [((.int .i64 0), .val), ((.int .i64 0), .val), ((.int .i64 0), .val), ((.str ⟨#[]⟩), .val), ((.int .i64 0), .val), ((.str ⟨#[]⟩), .val), ((.list 7 []), .full)]]).set sg.length (SObj.box (putAt c3 0 [((proj 0 d2), .val), ((proj 1 d2), .val), ((proj 2 d2), .val), ((proj 3 d2), .val), ((proj 4 d2), .val), ((proj 5 d2), .val), ((proj 6 d2), .val)]))) ++ [SObj.box [((.list 1 []), .full)]]) ++ [SObj.box (c6.map fun d => (d, .val))]))
   else none)
   (some ([], sg))) := headP_of [] (by kernel_rfl)
theorem eq_tree_scope_look_3h (R : Orc) (t0i : Nat) (t13 : DV) (t14 : DV) (t15 : DV) (sg : List SObj) : P_tree_scope_look_3h R t0i t13 t14 t15 sg =
  (ob (dBin .lss t15 t14) fun d1 =>
  oif d1
   (ob (dIdx 16 t13 t15) fun d2 =>
   ob (sgBox (sg ++ [SObj.box [((.int .i64 0), .val), ((.int .i64 0), .val), ((.int .i64 0), .val), ((.str ⟨#[]⟩), .val), ((.str ⟨#[]⟩), .val), ((.int .i64 0), .val), ((.str ⟨#[]⟩), .val), ((.int .i64 0), .val), ((.int .i64 0), .val), ((.int .i64 0), .val), ((.list 3 []), .full), ((.int .i64 0), .val), ((.int .i64 0), .val), ((.list 3 []), .full), ((.list 7 []), .full), ((.list 16 []), .full)]]) sg.length) fun c3 =>
   if 0 + 16 ≤ c3.length then
    (ob (sgBox ((sg ++ [SObj.box [((.int .i64 0), .val), ((.int .i64 0), .val), ((.int .i64 0), .val), ((.str ⟨#[]⟩), .val), ((.str ⟨#[]⟩), .val), ((.int .i64 0), .val), ((.str ⟨#[]⟩), .val), ((.int .i64 0), .val), ((.int .i64 0), .val), ((.int .i64 0), .val), ((.list 3 []), .full), ((.int .i64 0), .val), ((.int .i64 0), .val), ((.list 3 []), .full), ((.list 7 []), .full), ((.list 16 []), .full)]]).set sg.length (SObj.box (putAt c3 0 [((proj 0 d2), .val), ((proj 1 d2), .val), ((proj 2 d2), .val), ((proj 3 d2), .val), ((proj 4 d2), .val), ((proj 5 d2), .val), ((proj 6 d2), .val), ((proj 7 d2), .val), ((proj 8 d2), .val), ((proj 9 d2), .val), ((proj 10 d2), .val), ((proj 11 d2), .val), ((proj 12 d2), .val), ((proj 13 d2), .val), ((proj 14 d2), .val), ((proj 15 d2), .val)]))) sg.length) fun c4 =>
    ob (segDat 0 16 c4) fun e5 =>
    ob (R.r F_tree_scope_with [(.undef, (.ptr t0i 0)), ((.agg e5), .val), ((.list 1 []), .val)] ((sg ++ [SObj.box [((.int .i64 0), .val), ((.int .i64 0), .val), ((.int .i64 0), .val), ((.str ⟨#[]⟩), .val), ((.str ⟨#[]⟩), .val), ((.int .i64 0), .val), ((.str ⟨#[]⟩), .val), ((.int .i64 0), .val), ((.int .i64 0), .val), ((.int .i64 0), .val), ((.list 3 []), .full), ((.int .i64 0), .val), ((.int .i64 0), .val), ((.list 3 []), .full), ((.list 7 []), .full), ((.list 16 []), .full)]]).set sg.length (SObj.box (putAt c3 0 [((proj 0 d2), .val), ((proj 1 d2), .val), ((proj 2 d2), .val), ((proj 3 d2), .val), ((proj 4 d2), .val), ((proj 5 d2), .val), ((proj 6 d2), .val), ((proj 7 d2), .val), ((proj 8 d2), .val), ((proj 9 d2), .val), ((proj 10 d2), .val), ((proj 11 d2), .val), ((proj 12 d2), .val), ((proj 13 d2), .val), ((proj 14 d2), .val), ((proj 15 d2), .val)])))) fun q6 =>
    ob (dBin .add t15 (.int .i64 1)) fun d7 =>
    P_tree_scope_look_3h R t0i t13 t14 d7 q6.2)
   else none)
   (some ([], sg))) := headP_of [] (by kernel_rfl)
theorem eq_tree_scope_look_r0 (R : Orc) (t0i : Nat) (t3i : Nat) (t4 : DV) (t5i : Nat) (t6i : Nat) (t100 : DV) (t101 : DV) (t102 : DV) (t104 : DV) (t105 : DV) (t106 : DV) (t107 : DV) (t108c0 : Nat) (sg : List SObj) : P_tree_scope_look_r0 R t0i t3i t4 t5i t6i t100 t101 t102 t104 t105 t106 t107 t108c0 sg =
  ob (sgBox sg t108c0) fun cs => ob (allDat cs) fun cd => ob (flatD 7 6 cd) fun ds => I_tree_scope_look_r0 R t0i t3i t4 t5i t6i t100 t101 t102 t104 t105 t106 t107 t108c0 ds (sg.set t108c0 (.arr 1 [])) :=
  (rangeP2 (t := 108) (f := 57) (i := t108c0) (q := 109) (it := flatD 7 6) (by kernel_rfl) (by kernel_rfl) (by kernel_rfl) (by kernel_rfl)).trans (by kernel_rfl)
theorem I_tree_scope_look_r0_nil (R : Orc) (t0i : Nat) (t3i : Nat) (t4 : DV) (t5i : Nat) (t6i : Nat) (t100 : DV) (t101 : DV) (t102 : DV) (t104 : DV) (t105 : DV) (t106 : DV) (t107 : DV) (t108c0 : Nat) (sg : List SObj) : I_tree_scope_look_r0 R t0i t3i t4 t5i t6i t100 t101 t102 t104 t105 t106 t107 t108c0 [] sg = X_tree_scope_look_r0 R t0i t3i t4 t5i t6i t100 t101 t102 t104 t105 t106 t107 t108c0 .normal sg := rfl
theorem I_tree_scope_look_r0_cons (R : Orc) (t0i : Nat) (t3i : Nat) (t4 : DV) (t5i : Nat) (t6i : Nat) (t100 : DV) (t101 : DV) (t102 : DV) (t104 : DV) (t105 : DV) (t106 : DV) (t107 : DV) (t108c0 : Nat) (x : DV) (ds : List DV) (sg : List SObj) : I_tree_scope_look_r0 R t0i t3i t4 t5i t6i t100 t101 t102 t104 t105 t106 t107 t108c0 (x :: ds) sg = B_tree_scope_look_r0 R t0i t3i t4 t5i t6i t100 t101 t102 t104 t105 t106 t107 t108c0 (I_tree_scope_look_r0 R t0i t3i t4 t5i t6i t100 t101 t102 t104 t105 t106 t107 t108c0 ds) x sg := rfl
theorem eq_B_tree_scope_look_r0 (R : Orc) (t0i : Nat) (t3i : Nat) (t4 : DV) (t5i : Nat) (t6i : Nat) (t100 : DV) (t101 : DV) (t102 : DV) (t104 : DV) (t105 : DV) (t106 : DV) (t107 : DV) (t108c0 : Nat) (I : List SObj → Option (List DV × List SObj)) (x : DV) (sg : List SObj) : B_tree_scope_look_r0 R t0i t3i t4 t5i t6i t100 t101 t102 t104 t105 t106 t107 t108c0 I x sg =
  (og (isAggN 7 x) <|
  ob (dBin .eql (proj 0 x) (.int .i64 2)) fun d1 =>
  oif d1
   (ob (sgBox sg t6i) fun c2 =>
   ob (cellOwn c2 0) fun d3 =>
   og (isCell (proj 3 x)) <|
   ob (dApp 1 d3 (.list 1 [(proj 3 x)])) fun d4 =>
   ob (sgBox (sg.set t6i (SObj.box (c2.set 0 (d3, .val)))) t6i) fun c5 =>
   ob (c5[0]?) fun u6 =>
   I ((sg.set t6i (SObj.box (c2.set 0 (d3, .val)))).set t6i (SObj.box (c5.set 0 (d4, .own)))))
   (I sg)) := evP_of [] (by kernel_rfl)
theorem eq_X_tree_scope_look_r0_normal (R : Orc) (t0i : Nat) (t3i : Nat) (t4 : DV) (t5i : Nat) (t6i : Nat) (t100 : DV) (t101 : DV) (t102 : DV) (t104 : DV) (t105 : DV) (t106 : DV) (t107 : DV) (t108c0 : Nat) (sg : List SObj) : X_tree_scope_look_r0 R t0i t3i t4 t5i t6i t100 t101 t102 t104 t105 t106 t107 t108c0 .normal sg =
  (ob (sgBox sg t3i) fun c1 =>
  ob (cellDat c1 15) fun d2 =>
  ob (dBin .add t4 (.int .i64 1)) fun d3 =>
  ob (dIdx 16 d2 d3) fun d4 =>
  ob (sgBox sg t6i) fun c5 =>
  ob (cellDat c5 0) fun d6 =>
  ob (R.r F_tree_scope_with [(.undef, (.ptr t0i 0)), ((.agg [(proj 0 d4), (proj 1 d4), (proj 2 d4), (proj 3 d4), (proj 4 d4), (proj 5 d4), (proj 6 d4), (proj 7 d4), (proj 8 d4), (proj 9 d4), (proj 10 d4), (proj 11 d4), (proj 12 d4), (proj 13 d4), (proj 14 d4), (proj 15 d4)]), .val), (d6, .val)] sg) fun q7 =>
  ob (dBin .add t102 (.int .i64 1)) fun d8 =>
  P_tree_scope_look_21h R t0i t3i t100 t101 d8 q7.2) := konP_of [] (by kernel_rfl)
theorem fix_tree_scope_look (x0 : Nat) (x1 : DV) (sg : List SObj) : (run cfg).r F_tree_scope_look [(.undef, (.ptr x0 0)), (x1, .val)] sg = P_tree_scope_look (run cfg) x0 x1 sg :=
  (fix_raw (C := cfg) (f := F_tree_scope_look) (s := sig_tree_scope_look) (fn := Try.f38) (c := code_tree_scope_look) (by kernel_rfl) Try.func38 (by kernel_rfl)).trans (by kernel_rfl)
theorem call_tree_scope_look (x0 : Nat) (x1 : DV) (sg : List SObj) {q : List DV × List SObj} (h : P_tree_scope_look (run cfg) x0 x1 sg = some q) : (run cfg).r F_tree_scope_look [(.undef, (.ptr x0 0)), (x1, .val)] sg = some q := (fix_tree_scope_look x0 x1 sg).trans h

noncomputable def code_tree_one : Code := Try.f41.body.getD .skip
noncomputable def P_tree_one (R : Orc) (x0 : DV) : Option DV := evP cfg R fl_tree_one (retP cfg.P Try.f41) [] code_tree_one (initSt Try.f41 [(x0, .val)] [])
noncomputable def P_tree_one_4 (R : Orc) (b1 : DV) (b3 : DV) : Option DV := evP cfg R fl_tree_one (retP cfg.P Try.f41) [true, true, false, false, true, true] code_tree_one ⟨spread .undef 186 0 [], spread .val 186 0 [(1, (.loc 1 0)), (3, (.loc 3 0))], spread none 186 0 [(1, some [((proj 0 b1), .val), ((proj 1 b1), .val), ((proj 2 b1), .val), ((proj 3 b1), .val), ((proj 4 b1), .val), ((proj 5 b1), .val), ((proj 6 b1), .val), ((proj 7 b1), .val), ((proj 8 b1), .val), ((proj 9 b1), .val), ((proj 10 b1), .val), ((proj 11 b1), .val), ((proj 12 b1), .val), ((proj 13 b1), .val), ((proj 14 b1), .val), ((proj 15 b1), .val)]), (3, some [((proj 0 b3), .val), ((proj 1 b3), .val), ((proj 2 b3), .val), ((proj 3 b3), .val), ((proj 4 b3), .val), ((proj 5 b3), .val), ((proj 6 b3), .val), ((proj 7 b3), .val), ((proj 8 b3), .val)])], []⟩
noncomputable def P_tree_one_6 (R : Orc) (b1 : DV) (b3 : DV) : Option DV := evP cfg R fl_tree_one (retP cfg.P Try.f41) [true, true, false, false, true, true, true, true] code_tree_one ⟨spread .undef 186 0 [], spread .val 186 0 [(1, (.loc 1 0)), (3, (.loc 3 0))], spread none 186 0 [(1, some [((proj 0 b1), .val), ((proj 1 b1), .val), ((proj 2 b1), .val), ((proj 3 b1), .val), ((proj 4 b1), .val), ((proj 5 b1), .val), ((proj 6 b1), .val), ((proj 7 b1), .val), ((proj 8 b1), .val), ((proj 9 b1), .val), ((proj 10 b1), .val), ((proj 11 b1), .val), ((proj 12 b1), .val), ((proj 13 b1), .val), ((proj 14 b1), .val), ((proj 15 b1), .val)]), (3, some [((proj 0 b3), .val), ((proj 1 b3), .val), ((proj 2 b3), .val), ((proj 3 b3), .val), ((proj 4 b3), .val), ((proj 5 b3), .val), ((proj 6 b3), .val), ((proj 7 b3), .val), ((proj 8 b3), .val)])], []⟩
noncomputable def P_tree_one_8 (R : Orc) (b1 : DV) (b3 : DV) : Option DV := evP cfg R fl_tree_one (retP cfg.P Try.f41) [true, true, false, false, true, true, true, true, true, true] code_tree_one ⟨spread .undef 186 0 [], spread .val 186 0 [(1, (.loc 1 0)), (3, (.loc 3 0))], spread none 186 0 [(1, some [((proj 0 b1), .val), ((proj 1 b1), .val), ((proj 2 b1), .val), ((proj 3 b1), .val), ((proj 4 b1), .val), ((proj 5 b1), .val), ((proj 6 b1), .val), ((proj 7 b1), .val), ((proj 8 b1), .val), ((proj 9 b1), .val), ((proj 10 b1), .val), ((proj 11 b1), .val), ((proj 12 b1), .val), ((proj 13 b1), .val), ((proj 14 b1), .val), ((proj 15 b1), .val)]), (3, some [((proj 0 b3), .val), ((proj 1 b3), .val), ((proj 2 b3), .val), ((proj 3 b3), .val), ((proj 4 b3), .val), ((proj 5 b3), .val), ((proj 6 b3), .val), ((proj 7 b3), .val), ((proj 8 b3), .val)])], []⟩
noncomputable def P_tree_one_10 (R : Orc) (b1 : DV) (b3 : DV) : Option DV := evP cfg R fl_tree_one (retP cfg.P Try.f41) [true, true, false, false, true, true, true, true, true, true, true, true] code_tree_one ⟨spread .undef 186 0 [], spread .val 186 0 [(1, (.loc 1 0)), (3, (.loc 3 0))], spread none 186 0 [(1, some [((proj 0 b1), .val), ((proj 1 b1), .val), ((proj 2 b1), .val), ((proj 3 b1), .val), ((proj 4 b1), .val), ((proj 5 b1), .val), ((proj 6 b1), .val), ((proj 7 b1), .val), ((proj 8 b1), .val), ((proj 9 b1), .val), ((proj 10 b1), .val), ((proj 11 b1), .val), ((proj 12 b1), .val), ((proj 13 b1), .val), ((proj 14 b1), .val), ((proj 15 b1), .val)]), (3, some [((proj 0 b3), .val), ((proj 1 b3), .val), ((proj 2 b3), .val), ((proj 3 b3), .val), ((proj 4 b3), .val), ((proj 5 b3), .val), ((proj 6 b3), .val), ((proj 7 b3), .val), ((proj 8 b3), .val)])], []⟩
noncomputable def P_tree_one_12 (R : Orc) (b1 : DV) (b3 : DV) : Option DV := evP cfg R fl_tree_one (retP cfg.P Try.f41) [true, true, false, false, true, true, true, true, true, true, true, true, true, true] code_tree_one ⟨spread .undef 186 0 [], spread .val 186 0 [(1, (.loc 1 0)), (3, (.loc 3 0))], spread none 186 0 [(1, some [((proj 0 b1), .val), ((proj 1 b1), .val), ((proj 2 b1), .val), ((proj 3 b1), .val), ((proj 4 b1), .val), ((proj 5 b1), .val), ((proj 6 b1), .val), ((proj 7 b1), .val), ((proj 8 b1), .val), ((proj 9 b1), .val), ((proj 10 b1), .val), ((proj 11 b1), .val), ((proj 12 b1), .val), ((proj 13 b1), .val), ((proj 14 b1), .val), ((proj 15 b1), .val)]), (3, some [((proj 0 b3), .val), ((proj 1 b3), .val), ((proj 2 b3), .val), ((proj 3 b3), .val), ((proj 4 b3), .val), ((proj 5 b3), .val), ((proj 6 b3), .val), ((proj 7 b3), .val), ((proj 8 b3), .val)])], []⟩
noncomputable def P_tree_one_14 (R : Orc) (b1 : DV) (b3 : DV) : Option DV := evP cfg R fl_tree_one (retP cfg.P Try.f41) [true, true, false, false, true, true, true, true, true, true, true, true, true, true, true, true] code_tree_one ⟨spread .undef 186 0 [], spread .val 186 0 [(1, (.loc 1 0)), (3, (.loc 3 0))], spread none 186 0 [(1, some [((proj 0 b1), .val), ((proj 1 b1), .val), ((proj 2 b1), .val), ((proj 3 b1), .val), ((proj 4 b1), .val), ((proj 5 b1), .val), ((proj 6 b1), .val), ((proj 7 b1), .val), ((proj 8 b1), .val), ((proj 9 b1), .val), ((proj 10 b1), .val), ((proj 11 b1), .val), ((proj 12 b1), .val), ((proj 13 b1), .val), ((proj 14 b1), .val), ((proj 15 b1), .val)]), (3, some [((proj 0 b3), .val), ((proj 1 b3), .val), ((proj 2 b3), .val), ((proj 3 b3), .val), ((proj 4 b3), .val), ((proj 5 b3), .val), ((proj 6 b3), .val), ((proj 7 b3), .val), ((proj 8 b3), .val)])], []⟩
noncomputable def P_tree_one_16 (R : Orc) (b1 : DV) (b3 : DV) : Option DV := evP cfg R fl_tree_one (retP cfg.P Try.f41) [true, true, false, false, true, true, true, true, true, true, true, true, true, true, true, true, true, true] code_tree_one ⟨spread .undef 186 0 [], spread .val 186 0 [(1, (.loc 1 0)), (3, (.loc 3 0))], spread none 186 0 [(1, some [((proj 0 b1), .val), ((proj 1 b1), .val), ((proj 2 b1), .val), ((proj 3 b1), .val), ((proj 4 b1), .val), ((proj 5 b1), .val), ((proj 6 b1), .val), ((proj 7 b1), .val), ((proj 8 b1), .val), ((proj 9 b1), .val), ((proj 10 b1), .val), ((proj 11 b1), .val), ((proj 12 b1), .val), ((proj 13 b1), .val), ((proj 14 b1), .val), ((proj 15 b1), .val)]), (3, some [((proj 0 b3), .val), ((proj 1 b3), .val), ((proj 2 b3), .val), ((proj 3 b3), .val), ((proj 4 b3), .val), ((proj 5 b3), .val), ((proj 6 b3), .val), ((proj 7 b3), .val), ((proj 8 b3), .val)])], []⟩
noncomputable def P_tree_one_18 (R : Orc) (b1 : DV) : Option DV := evP cfg R fl_tree_one (retP cfg.P Try.f41) [true, true, true] code_tree_one ⟨spread .undef 186 0 [], spread .val 186 0 [(1, (.loc 1 0))], spread none 186 0 [(1, some [((proj 0 b1), .val), ((proj 1 b1), .val), ((proj 2 b1), .val), ((proj 3 b1), .val), ((proj 4 b1), .val), ((proj 5 b1), .val), ((proj 6 b1), .val), ((proj 7 b1), .val), ((proj 8 b1), .val), ((proj 9 b1), .val), ((proj 10 b1), .val), ((proj 11 b1), .val), ((proj 12 b1), .val), ((proj 13 b1), .val), ((proj 14 b1), .val), ((proj 15 b1), .val)])], []⟩
noncomputable def P_tree_one_19h (R : Orc) (t176 : DV) (t177 : DV) (t178 : DV) : Option DV := headP cfg R fl_tree_one (retP cfg.P Try.f41) [true, true, true, false, true, false] code_tree_one ⟨spread .undef 186 0 [(176, t176), (177, t177), (178, t178)], spread .val 186 0 [], spread none 186 0 [], []⟩
set_option maxRecDepth 100000 in
theorem eq_tree_one (R : Orc) (x0 : DV) : P_tree_one R x0 =
  (og (isAggN 16 x0) <|
  ob (R.p F_tree_shapeOf [(.agg [(proj 0 x0), (proj 1 x0), (proj 2 x0), (proj 3 x0), (proj 4 x0), (proj 5 x0), (proj 6 x0), (proj 7 x0), (proj 8 x0), (proj 9 x0), (proj 10 x0), (proj 11 x0), (proj 12 x0), (proj 13 x0), (proj 14 x0), (proj 15 x0)])]) fun d1 =>
  ob (dExt 0 d1) fun d2 =>
  ob (dExt 1 d1) fun d3 =>
  og (isAggN 9 d2) <|
  ob (dUn .not d3) fun d4 =>
  ogd d4
   (some (.bool false))
   (ob (dLen (proj 15 x0)) fun d5 =>
   ob (dBin .neq d5 (proj 8 d2)) fun d6 =>
   ogd d6
    (some (.bool false))
    (ob (dBin .neq (proj 0 x0) (.int .i64 14)) fun d7 =>
    ogd d7
     (ob (dLen (proj 14 x0)) fun d8 =>
     ob (dBin .gtr d8 (.int .i64 0)) fun d9 =>
     oif d9
      (some (.bool false))
      (P_tree_one_4 R x0 d2))
     (P_tree_one_4 R x0 d2)
     none)
    none)
   none) := evP_of [4, 6, 8, 10, 12, 14, 16, 18] (by kernel_rfl)
set_option maxRecDepth 100000 in
theorem eq_tree_one_4 (R : Orc) (b1 : DV) (b3 : DV) : P_tree_one_4 R b1 b3 =
  (ogd (proj 0 b3)
   (ob (R.p F_word_Name [(proj 3 b1)]) fun d1 =>
   ob (dUn .not d1) fun d2 =>
   ogd d2
    (some (.bool false))
    (ob (dUn .not (proj 0 b3)) fun d3 =>
    ogd d3
     (ob (dBin .neq (proj 3 b1) (.str ⟨#[]⟩)) fun d4 =>
     oif d4
      (some (.bool false))
      (P_tree_one_6 R b1 b3))
     (P_tree_one_6 R b1 b3)
     none)
    none)
   (ob (dUn .not (proj 0 b3)) fun d5 =>
   ogd d5
    (ob (dBin .neq (proj 3 b1) (.str ⟨#[]⟩)) fun d6 =>
    oif d6
     (some (.bool false))
     (P_tree_one_6 R b1 b3))
    (P_tree_one_6 R b1 b3)
    none)
   none) := evP_of [4, 6, 8, 10, 12, 14, 16, 18] (by kernel_rfl)
set_option maxRecDepth 100000 in
theorem eq_tree_one_6 (R : Orc) (b1 : DV) (b3 : DV) : P_tree_one_6 R b1 b3 =
  (ogd (proj 1 b3)
   (ob (R.p F_word_Name [(proj 4 b1)]) fun d1 =>
   ob (dUn .not d1) fun d2 =>
   ogd d2
    (some (.bool false))
    (ob (dUn .not (proj 1 b3)) fun d3 =>
    ogd d3
     (ob (dBin .neq (proj 4 b1) (.str ⟨#[]⟩)) fun d4 =>
     oif d4
      (some (.bool false))
      (P_tree_one_8 R b1 b3))
     (P_tree_one_8 R b1 b3)
     none)
    none)
   (ob (dUn .not (proj 1 b3)) fun d5 =>
   ogd d5
    (ob (dBin .neq (proj 4 b1) (.str ⟨#[]⟩)) fun d6 =>
    oif d6
     (some (.bool false))
     (P_tree_one_8 R b1 b3))
    (P_tree_one_8 R b1 b3)
    none)
   none) := evP_of [4, 6, 8, 10, 12, 14, 16, 18] (by kernel_rfl)
set_option maxRecDepth 100000 in
theorem eq_tree_one_8 (R : Orc) (b1 : DV) (b3 : DV) : P_tree_one_8 R b1 b3 =
  (ob (dUn .not (proj 2 b3)) fun d1 =>
  ogd d1
   (ob (dBin .neq (proj 5 b1) (.int .i64 0)) fun d2 =>
   ogd d2
    (some (.bool false))
    (ob (dBin .eql (proj 0 b1) (.int .i64 3)) fun d3 =>
    ogd d3
     (ob (dBin .neq (proj 5 b1) (.int .i64 0)) fun d4 =>
     ogd d4
      (ob (dBin .neq (proj 5 b1) (.int .i64 1)) fun d5 =>
      oif d5
       (some (.bool false))
       (P_tree_one_10 R b1 b3))
      (P_tree_one_10 R b1 b3)
      none)
     (P_tree_one_10 R b1 b3)
     none)
    none)
   (ob (dBin .eql (proj 0 b1) (.int .i64 3)) fun d6 =>
   ogd d6
    (ob (dBin .neq (proj 5 b1) (.int .i64 0)) fun d7 =>
    ogd d7
     (ob (dBin .neq (proj 5 b1) (.int .i64 1)) fun d8 =>
     oif d8
      (some (.bool false))
      (P_tree_one_10 R b1 b3))
     (P_tree_one_10 R b1 b3)
     none)
    (P_tree_one_10 R b1 b3)
    none)
   none) := evP_of [4, 6, 8, 10, 12, 14, 16, 18] (by kernel_rfl)
theorem eq_tree_one_10 (R : Orc) (b1 : DV) (b3 : DV) : P_tree_one_10 R b1 b3 =
  (ob (dUn .not (proj 3 b3)) fun d1 =>
  ogd d1
   (ob (dBin .neq (proj 6 b1) (.str ⟨#[]⟩)) fun d2 =>
   ogd d2
    (some (.bool false))
    (ob (dLenS (proj 6 b1)) fun d3 =>
    ob (dBin .gtr d3 (.int .i64 200)) fun d4 =>
    oif d4
     (some (.bool false))
     (P_tree_one_12 R b1 b3))
    none)
   (ob (dLenS (proj 6 b1)) fun d5 =>
   ob (dBin .gtr d5 (.int .i64 200)) fun d6 =>
   oif d6
    (some (.bool false))
    (P_tree_one_12 R b1 b3))
   none) := evP_of [4, 6, 8, 10, 12, 14, 16, 18] (by kernel_rfl)
set_option maxRecDepth 100000 in
theorem eq_tree_one_12 (R : Orc) (b1 : DV) (b3 : DV) : P_tree_one_12 R b1 b3 =
  (ogd (proj 4 b3)
   (ob (dBin .lss (proj 7 b1) (.int .i64 1)) fun d1 =>
   ogd d1
    (some (.bool false))
    (ob (dBin .gtr (proj 7 b1) (.int .i64 7)) fun d2 =>
    ogd d2
     (some (.bool false))
     (ob (dUn .not (proj 4 b3)) fun d3 =>
     ogd d3
      (ob (dBin .neq (proj 7 b1) (.int .i64 0)) fun d4 =>
      oif d4
       (some (.bool false))
       (P_tree_one_14 R b1 b3))
      (P_tree_one_14 R b1 b3)
      none)
     none)
    none)
   (ob (dUn .not (proj 4 b3)) fun d5 =>
   ogd d5
    (ob (dBin .neq (proj 7 b1) (.int .i64 0)) fun d6 =>
    oif d6
     (some (.bool false))
     (P_tree_one_14 R b1 b3))
    (P_tree_one_14 R b1 b3)
    none)
   none) := evP_of [4, 6, 8, 10, 12, 14, 16, 18] (by kernel_rfl)
set_option maxRecDepth 100000 in
theorem eq_tree_one_14 (R : Orc) (b1 : DV) (b3 : DV) : P_tree_one_14 R b1 b3 =
  (ob (R.p F_tree_none [(.agg [(proj 8 b1), (proj 9 b1), (proj 10 b1)])]) fun d1 =>
  ob (dUn .not d1) fun d2 =>
  ogd d2
   (ob (dUn .not (proj 5 b3)) fun d3 =>
   ogd d3
    (some (.bool false))
    (ob (R.p F_tree_closed [(.agg [(proj 8 b1), (proj 9 b1), (proj 10 b1)])]) fun d4 =>
    ob (dUn .not d4) fun d5 =>
    ogd d5
     (some (.bool false))
     (ogd (proj 7 b3)
      (ob (R.p F_tree_none [(.agg [(proj 8 b1), (proj 9 b1), (proj 10 b1)])]) fun d6 =>
      oif d6
       (some (.bool false))
       (P_tree_one_16 R b1 b3))
      (P_tree_one_16 R b1 b3)
      none)
     none)
    none)
   (ogd (proj 7 b3)
    (ob (R.p F_tree_none [(.agg [(proj 8 b1), (proj 9 b1), (proj 10 b1)])]) fun d7 =>
    oif d7
     (some (.bool false))
     (P_tree_one_16 R b1 b3))
    (P_tree_one_16 R b1 b3)
    none)
   none) := evP_of [4, 6, 8, 10, 12, 14, 16, 18] (by kernel_rfl)
theorem eq_tree_one_16 (R : Orc) (b1 : DV) (b3 : DV) : P_tree_one_16 R b1 b3 =
  (ob (R.p F_tree_none [(.agg [(proj 11 b1), (proj 12 b1), (proj 13 b1)])]) fun d1 =>
  ob (dUn .not d1) fun d2 =>
  ogd d2
   (ob (dUn .not (proj 6 b3)) fun d3 =>
   ogd d3
    (some (.bool false))
    (ob (R.p F_tree_closed [(.agg [(proj 11 b1), (proj 12 b1), (proj 13 b1)])]) fun d4 =>
    ob (dUn .not d4) fun d5 =>
    oif d5
     (some (.bool false))
     (P_tree_one_18 R b1))
    none)
   (P_tree_one_18 R b1)
   none) := evP_of [4, 6, 8, 10, 12, 14, 16, 18] (by kernel_rfl)
theorem eq_tree_one_18 (R : Orc) (b1 : DV) : P_tree_one_18 R b1 =
  (ob (dLen (proj 14 b1)) fun d1 =>
  P_tree_one_19h R (proj 14 b1) d1 (.int .i64 0)) := evP_of [4, 6, 8, 10, 12, 14, 16, 18] (by kernel_rfl)
theorem eq_tree_one_19h (R : Orc) (t176 : DV) (t177 : DV) (t178 : DV) : P_tree_one_19h R t176 t177 t178 =
  (ob (dBin .lss t178 t177) fun d1 =>
  oif d1
   (ob (dIdx 7 t176 t178) fun d2 =>
   ob (R.p F_tree_CheckPat [(.agg [(proj 0 d2), (proj 1 d2), (proj 2 d2), (proj 3 d2), (proj 4 d2), (proj 5 d2), (proj 6 d2)])]) fun d3 =>
   ob (dBin .neq d3 (.int .i64 0)) fun d4 =>
   oif d4
    (some (.bool false))
    (ob (dBin .add t178 (.int .i64 1)) fun d5 =>
    P_tree_one_19h R t176 t177 d5))
   (some (.bool true))) := headP_of [4, 6, 8, 10, 12, 14, 16, 18] (by kernel_rfl)
theorem fix_tree_one (x0 : DV) : (run cfg).p F_tree_one [x0] = P_tree_one (run cfg) x0 :=
  (fix_pure (C := cfg) (f := F_tree_one) (fn := Try.f41) (c := code_tree_one) (by kernel_rfl) Try.func41 (by kernel_rfl)).trans (by kernel_rfl)
theorem call_tree_one (x0 : DV) {d : DV} (h : P_tree_one (run cfg) x0 = some d) : (run cfg).p F_tree_one [x0] = some d := (fix_tree_one x0).trans h

noncomputable def code_tree_none : Code := Try.f42.body.getD .skip
noncomputable def P_tree_none (R : Orc) (x0 : DV) : Option DV := evP cfg R fl_tree_none (retP cfg.P Try.f42) [] code_tree_none (initSt Try.f42 [(x0, .val)] [])
theorem eq_tree_none (R : Orc) (x0 : DV) : P_tree_none R x0 =
  (og (isAggN 3 x0) <|
  ob (dBin .eql (proj 0 x0) (.int .i64 0)) fun d1 =>
  ogd d1
   (ob (dBin .eql (proj 1 x0) (.int .i64 0)) fun d2 =>
   ogd d2
    (ob (dLen (proj 2 x0)) fun d3 =>
    ob (dBin .eql d3 (.int .i64 0)) fun d4 =>
    some d4)
    (some (.bool false))
    none)
   (some (.bool false))
   none) := evP_of [] (by kernel_rfl)
theorem fix_tree_none (x0 : DV) : (run cfg).p F_tree_none [x0] = P_tree_none (run cfg) x0 :=
  (fix_pure (C := cfg) (f := F_tree_none) (fn := Try.f42) (c := code_tree_none) (by kernel_rfl) Try.func42 (by kernel_rfl)).trans (by kernel_rfl)
theorem call_tree_none (x0 : DV) {d : DV} (h : P_tree_none (run cfg) x0 = some d) : (run cfg).p F_tree_none [x0] = some d := (fix_tree_none x0).trans h

noncomputable def code_tree_value : Code := Try.f43.body.getD .skip
noncomputable def P_tree_value (R : Orc) (x0 : DV) : Option DV := evP cfg R fl_tree_value (retP cfg.P Try.f43) [] code_tree_value (initSt Try.f43 [(x0, .val)] [])
noncomputable def P_tree_value_12 (R : Orc) (b1 : DV) : Option DV := evP cfg R fl_tree_value (retP cfg.P Try.f43) [true, false, true, false, true, true, true, false] code_tree_value ⟨spread .undef 28 0 [], spread .val 28 0 [(1, (.loc 1 0))], spread none 28 0 [(1, some [((proj 0 b1), .val), ((proj 1 b1), .val), ((proj 2 b1), .val), ((proj 3 b1), .val), ((proj 4 b1), .val), ((proj 5 b1), .val), ((proj 6 b1), .val), ((proj 7 b1), .val), ((proj 8 b1), .val), ((proj 9 b1), .val), ((proj 10 b1), .val), ((proj 11 b1), .val), ((proj 12 b1), .val), ((proj 13 b1), .val), ((proj 14 b1), .val), ((proj 15 b1), .val)])], []⟩
theorem eq_tree_value (R : Orc) (x0 : DV) : P_tree_value R x0 =
  (og (isAggN 16 x0) <|
  ob (dBin .eql (proj 0 x0) (.int .i64 1)) fun d1 =>
  oif d1
   (some (.bool true))
   (ob (dBin .eql (proj 0 x0) (.int .i64 2)) fun d2 =>
   oif d2
    (some (.bool true))
    (ob (dBin .eql (proj 0 x0) (.int .i64 3)) fun d3 =>
    oif d3
     (some (.bool true))
     (ob (dBin .eql (proj 0 x0) (.int .i64 4)) fun d4 =>
     oif d4
      (some (.bool true))
      (ob (dBin .eql (proj 0 x0) (.int .i64 5)) fun d5 =>
      oif d5
       (some (.bool true))
       (ob (dBin .eql (proj 0 x0) (.int .i64 7)) fun d6 =>
       oif d6
        (some (.bool true))
        (ob (dBin .eql (proj 0 x0) (.int .i64 9)) fun d7 =>
        oif d7
         (some (.bool true))
         (ob (dBin .eql (proj 0 x0) (.int .i64 6)) fun d8 =>
         oif d8
          (P_tree_value_12 R x0)
          (ob (dBin .eql (proj 0 x0) (.int .i64 8)) fun d9 =>
          oif d9
           (P_tree_value_12 R x0)
           (some (.bool false))))))))))) := evP_of [12] (by kernel_rfl)
theorem eq_tree_value_12 (R : Orc) (b1 : DV) : P_tree_value_12 R b1 =
  (ob (dIdx 16 (proj 15 b1) (.int .i64 0)) fun d1 =>
  ob (R.p F_tree_value [(.agg [(proj 0 d1), (proj 1 d1), (proj 2 d1), (proj 3 d1), (proj 4 d1), (proj 5 d1), (proj 6 d1), (proj 7 d1), (proj 8 d1), (proj 9 d1), (proj 10 d1), (proj 11 d1), (proj 12 d1), (proj 13 d1), (proj 14 d1), (proj 15 d1)])]) fun d2 =>
  ogd d2
   (ob (dIdx 16 (proj 15 b1) (.int .i64 1)) fun d3 =>
   ob (R.p F_tree_value [(.agg [(proj 0 d3), (proj 1 d3), (proj 2 d3), (proj 3 d3), (proj 4 d3), (proj 5 d3), (proj 6 d3), (proj 7 d3), (proj 8 d3), (proj 9 d3), (proj 10 d3), (proj 11 d3), (proj 12 d3), (proj 13 d3), (proj 14 d3), (proj 15 d3)])]) fun d4 =>
   some d4)
   (some (.bool false))
   none) := evP_of [12] (by kernel_rfl)
theorem fix_tree_value (x0 : DV) : (run cfg).p F_tree_value [x0] = P_tree_value (run cfg) x0 :=
  (fix_pure (C := cfg) (f := F_tree_value) (fn := Try.f43) (c := code_tree_value) (by kernel_rfl) Try.func43 (by kernel_rfl)).trans (by kernel_rfl)
theorem call_tree_value (x0 : DV) {d : DV} (h : P_tree_value (run cfg) x0 = some d) : (run cfg).p F_tree_value [x0] = some d := (fix_tree_value x0).trans h

noncomputable def code_tree_depthPat : Code := Try.f44.body.getD .skip
noncomputable def P_tree_depthPat (R : Orc) (x0 : DV) : Option DV := evP cfg R fl_tree_depthPat (retP cfg.P Try.f44) [] code_tree_depthPat (initSt Try.f44 [(x0, .val)] [])
noncomputable def P_tree_depthPat_3h (R : Orc) (t3 : DV) (t7 : DV) (t8 : DV) (t9 : DV) : Option DV := headP cfg R fl_tree_depthPat (retP cfg.P Try.f44) [true, true, false, true, false] code_tree_depthPat ⟨spread .undef 20 0 [(3, t3), (7, t7), (8, t8), (9, t9)], spread .val 20 0 [], spread none 20 0 [], []⟩
theorem eq_tree_depthPat (R : Orc) (x0 : DV) : P_tree_depthPat R x0 =
  (og (isAggN 7 x0) <|
  ob (dLen (proj 6 x0)) fun d1 =>
  P_tree_depthPat_3h R (.int .i64 0) (proj 6 x0) d1 (.int .i64 0)) := evP_of [] (by kernel_rfl)
theorem eq_tree_depthPat_3h (R : Orc) (t3 : DV) (t7 : DV) (t8 : DV) (t9 : DV) : P_tree_depthPat_3h R t3 t7 t8 t9 =
  (ob (dBin .lss t9 t8) fun d1 =>
  oif d1
   (ob (dIdx 7 t7 t9) fun d2 =>
   ob (R.p F_tree_depthPat [(.agg [(proj 0 d2), (proj 1 d2), (proj 2 d2), (proj 3 d2), (proj 4 d2), (proj 5 d2), (proj 6 d2)])]) fun d3 =>
   ob (dMax t3 d3) fun d4 =>
   ob (dBin .add t9 (.int .i64 1)) fun d5 =>
   P_tree_depthPat_3h R d4 t7 t8 d5)
   (ob (dBin .add t3 (.int .i64 1)) fun d6 =>
   some d6)) := headP_of [] (by kernel_rfl)
theorem fix_tree_depthPat (x0 : DV) : (run cfg).p F_tree_depthPat [x0] = P_tree_depthPat (run cfg) x0 :=
  (fix_pure (C := cfg) (f := F_tree_depthPat) (fn := Try.f44) (c := code_tree_depthPat) (by kernel_rfl) Try.func44 (by kernel_rfl)).trans (by kernel_rfl)
theorem call_tree_depthPat (x0 : DV) {d : DV} (h : P_tree_depthPat (run cfg) x0 = some d) : (run cfg).p F_tree_depthPat [x0] = some d := (fix_tree_depthPat x0).trans h

noncomputable def code_typ_Depth : Code := Try.f45.body.getD .skip
noncomputable def P_typ_Depth (R : Orc) (x0 : DV) : Option DV := evP cfg R fl_typ_Depth (retP cfg.P Try.f45) [] code_typ_Depth (initSt Try.f45 [(x0, .val)] [])
noncomputable def P_typ_Depth_3h (R : Orc) (t3 : DV) (t7 : DV) (t8 : DV) (t9 : DV) : Option DV := headP cfg R fl_typ_Depth (retP cfg.P Try.f45) [true, true, false, true, false] code_typ_Depth ⟨spread .undef 20 0 [(3, t3), (7, t7), (8, t8), (9, t9)], spread .val 20 0 [], spread none 20 0 [], []⟩
theorem eq_typ_Depth (R : Orc) (x0 : DV) : P_typ_Depth R x0 =
  (og (isAggN 3 x0) <|
  ob (dLen (proj 2 x0)) fun d1 =>
  P_typ_Depth_3h R (.int .i64 0) (proj 2 x0) d1 (.int .i64 0)) := evP_of [] (by kernel_rfl)
theorem eq_typ_Depth_3h (R : Orc) (t3 : DV) (t7 : DV) (t8 : DV) (t9 : DV) : P_typ_Depth_3h R t3 t7 t8 t9 =
  (ob (dBin .lss t9 t8) fun d1 =>
  oif d1
   (ob (dIdx 3 t7 t9) fun d2 =>
   ob (R.p F_typ_Depth [(.agg [(proj 0 d2), (proj 1 d2), (proj 2 d2)])]) fun d3 =>
   ob (dMax t3 d3) fun d4 =>
   ob (dBin .add t9 (.int .i64 1)) fun d5 =>
   P_typ_Depth_3h R d4 t7 t8 d5)
   (ob (dBin .add t3 (.int .i64 1)) fun d6 =>
   some d6)) := headP_of [] (by kernel_rfl)
theorem fix_typ_Depth (x0 : DV) : (run cfg).p F_typ_Depth [x0] = P_typ_Depth (run cfg) x0 :=
  (fix_pure (C := cfg) (f := F_typ_Depth) (fn := Try.f45) (c := code_typ_Depth) (by kernel_rfl) Try.func45 (by kernel_rfl)).trans (by kernel_rfl)
theorem call_typ_Depth (x0 : DV) {d : DV} (h : P_typ_Depth (run cfg) x0 = some d) : (run cfg).p F_typ_Depth [x0] = some d := (fix_typ_Depth x0).trans h

noncomputable def code_typ_Same : Code := Try.f50.body.getD .skip
noncomputable def P_typ_Same (R : Orc) (x0 : DV) (x1 : DV) : Option DV := evP cfg R fl_typ_Same (retP cfg.P Try.f50) [] code_typ_Same (initSt Try.f50 [(x0, .val), (x1, .val)] [])
noncomputable def P_typ_Same_4h (R : Orc) (t29 : DV) (t30 : DV) (t31 : DV) (b3 : DV) : Option DV := headP cfg R fl_typ_Same (retP cfg.P Try.f50) [true, true, false, true, false] code_typ_Same ⟨spread .undef 45 0 [(29, t29), (30, t30), (31, t31)], spread .val 45 0 [(3, (.loc 3 0))], spread none 45 0 [(3, some [((proj 0 b3), .val), ((proj 1 b3), .val), ((proj 2 b3), .val)])], []⟩
set_option maxRecDepth 100000 in
theorem eq_typ_Same (R : Orc) (x0 : DV) (x1 : DV) : P_typ_Same R x0 x1 =
  (og (isAggN 3 x0) <|
  og (isAggN 3 x1) <|
  ob (dBin .neq (proj 0 x0) (proj 0 x1)) fun d1 =>
  ogd d1
   (some (.bool false))
   (ob (dBin .neq (proj 1 x0) (proj 1 x1)) fun d2 =>
   ogd d2
    (some (.bool false))
    (ob (dLen (proj 2 x0)) fun d3 =>
    ob (dLen (proj 2 x1)) fun d4 =>
    ob (dBin .neq d3 d4) fun d5 =>
    oif d5
     (some (.bool false))
     (ob (dLen (proj 2 x0)) fun d6 =>
     P_typ_Same_4h R (proj 2 x0) d6 (.int .i64 0) x1))
    none)
   none) := evP_of [] (by kernel_rfl)
theorem eq_typ_Same_4h (R : Orc) (t29 : DV) (t30 : DV) (t31 : DV) (b3 : DV) : P_typ_Same_4h R t29 t30 t31 b3 =
  (ob (dBin .lss t31 t30) fun d1 =>
  oif d1
   (ob (dIdx 3 t29 t31) fun d2 =>
   ob (dIdx 3 (proj 2 b3) t31) fun d3 =>
   ob (R.p F_typ_Same [(.agg [(proj 0 d2), (proj 1 d2), (proj 2 d2)]), (.agg [(proj 0 d3), (proj 1 d3), (proj 2 d3)])]) fun d4 =>
   ob (dUn .not d4) fun d5 =>
   oif d5
    (some (.bool false))
    (ob (dBin .add t31 (.int .i64 1)) fun d6 =>
    P_typ_Same_4h R t29 t30 d6 b3))
   (some (.bool true))) := headP_of [] (by kernel_rfl)
theorem fix_typ_Same (x0 : DV) (x1 : DV) : (run cfg).p F_typ_Same [x0, x1] = P_typ_Same (run cfg) x0 x1 :=
  (fix_pure (C := cfg) (f := F_typ_Same) (fn := Try.f50) (c := code_typ_Same) (by kernel_rfl) Try.func50 (by kernel_rfl)).trans (by kernel_rfl)
theorem call_typ_Same (x0 : DV) (x1 : DV) {d : DV} (h : P_typ_Same (run cfg) x0 x1 = some d) : (run cfg).p F_typ_Same [x0, x1] = some d := (fix_typ_Same x0 x1).trans h

end Go.Su

/-
  Equations of the program's functions: by program.
-/
namespace Go.Su
open Go.Proofs
set_option linter.unusedVariables false

noncomputable def code_slices_EqualFunc__api_Pat__api_Pat_api_Pat_api_Pat : Code := Try.f51.body.getD .skip
noncomputable def P_slices_EqualFunc__api_Pat__api_Pat_api_Pat_api_Pat (R : Orc) (x0 : DV) (x1 : DV) (sg : List SObj) : Option (List DV × List SObj) := evP cfg R fl_slices_EqualFunc__api_Pat__api_Pat_api_Pat_api_Pat (retR cfg.P Try.f51 sig_slices_EqualFunc__api_Pat__api_Pat_api_Pat_api_Pat) [] code_slices_EqualFunc__api_Pat__api_Pat_api_Pat_api_Pat (initSt Try.f51 [(x0, .val), (x1, .val), (.undef, (.fn 52 []))] sg)
noncomputable def P_slices_EqualFunc__api_Pat__api_Pat_api_Pat_api_Pat_4h (R : Orc) (t1 : DV) (t15 : DV) (t16 : DV) (t17 : DV) (sg : List SObj) : Option (List DV × List SObj) := headP cfg R fl_slices_EqualFunc__api_Pat__api_Pat_api_Pat_api_Pat (retR cfg.P Try.f51 sig_slices_EqualFunc__api_Pat__api_Pat_api_Pat_api_Pat) [true, true, false, true, false] code_slices_EqualFunc__api_Pat__api_Pat_api_Pat_api_Pat ⟨spread .undef 32 0 [(1, t1), (15, t15), (16, t16), (17, t17)], spread .val 32 0 [(2, (.fn 52 []))], spread none 32 0 [], sg⟩
theorem eq_slices_EqualFunc__api_Pat__api_Pat_api_Pat_api_Pat (R : Orc) (x0 : DV) (x1 : DV) (sg : List SObj) : P_slices_EqualFunc__api_Pat__api_Pat_api_Pat_api_Pat R x0 x1 sg =
  (ob (dLen x0) fun d1 =>
  ob (dLen x1) fun d2 =>
  ob (dBin .neq d1 d2) fun d3 =>
  oif d3
   (some ([(.bool false)], sg))
   (ob (dLen x0) fun d4 =>
   P_slices_EqualFunc__api_Pat__api_Pat_api_Pat_api_Pat_4h R x1 x0 d4 (.int .i64 0) sg)) := evP_of [] (by kernel_rfl)
theorem eq_slices_EqualFunc__api_Pat__api_Pat_api_Pat_api_Pat_4h (R : Orc) (t1 : DV) (t15 : DV) (t16 : DV) (t17 : DV) (sg : List SObj) : P_slices_EqualFunc__api_Pat__api_Pat_api_Pat_api_Pat_4h R t1 t15 t16 t17 sg =
  (ob (dBin .lss t17 t16) fun d1 =>
  oif d1
   (ob (dIdx 7 t15 t17) fun d2 =>
   ob (dIdx 7 t1 t17) fun d3 =>
   ob (R.p F_tree_samePat [(.agg [(proj 0 d2), (proj 1 d2), (proj 2 d2), (proj 3 d2), (proj 4 d2), (proj 5 d2), (proj 6 d2)]), (.agg [(proj 0 d3), (proj 1 d3), (proj 2 d3), (proj 3 d3), (proj 4 d3), (proj 5 d3), (proj 6 d3)])]) fun d4 =>
   ob (dUn .not d4) fun d5 =>
   oif d5
    (some ([(.bool false)], sg))
    (ob (dBin .add t17 (.int .i64 1)) fun d6 =>
    P_slices_EqualFunc__api_Pat__api_Pat_api_Pat_api_Pat_4h R t1 t15 t16 d6 sg))
   (some ([(.bool true)], sg))) := headP_of [] (by kernel_rfl)
theorem fix_slices_EqualFunc__api_Pat__api_Pat_api_Pat_api_Pat (x0 : DV) (x1 : DV) (sg : List SObj) : (run cfg).r F_slices_EqualFunc__api_Pat__api_Pat_api_Pat_api_Pat [(x0, .val), (x1, .val), (.undef, (.fn 52 []))] sg = P_slices_EqualFunc__api_Pat__api_Pat_api_Pat_api_Pat (run cfg) x0 x1 sg :=
  (fix_raw (C := cfg) (f := F_slices_EqualFunc__api_Pat__api_Pat_api_Pat_api_Pat) (s := sig_slices_EqualFunc__api_Pat__api_Pat_api_Pat_api_Pat) (fn := Try.f51) (c := code_slices_EqualFunc__api_Pat__api_Pat_api_Pat_api_Pat) (by kernel_rfl) Try.func51 (by kernel_rfl)).trans (by kernel_rfl)
theorem call_slices_EqualFunc__api_Pat__api_Pat_api_Pat_api_Pat (x0 : DV) (x1 : DV) (sg : List SObj) {q : List DV × List SObj} (h : P_slices_EqualFunc__api_Pat__api_Pat_api_Pat_api_Pat (run cfg) x0 x1 sg = some q) : (run cfg).r F_slices_EqualFunc__api_Pat__api_Pat_api_Pat_api_Pat [(x0, .val), (x1, .val), (.undef, (.fn 52 []))] sg = some q := (fix_slices_EqualFunc__api_Pat__api_Pat_api_Pat_api_Pat x0 x1 sg).trans h

noncomputable def code_tree_samePat : Code := Try.f52.body.getD .skip
noncomputable def P_tree_samePat (R : Orc) (x0 : DV) (x1 : DV) : Option DV := evP cfg R fl_tree_samePat (retP cfg.P Try.f52) [] code_tree_samePat (initSt Try.f52 [(x0, .val), (x1, .val)] [])
set_option maxRecDepth 100000 in
theorem eq_tree_samePat (R : Orc) (x0 : DV) (x1 : DV) : P_tree_samePat R x0 x1 =
  (og (isAggN 7 x0) <|
  og (isAggN 7 x1) <|
  ob (dBin .eql (proj 0 x0) (proj 0 x1)) fun d1 =>
  ogd d1
   (ob (dBin .eql (proj 3 x0) (proj 3 x1)) fun d2 =>
   ogd d2
    (ob (dBin .eql (proj 4 x0) (proj 4 x1)) fun d3 =>
    ogd d3
     (ob (dBin .eql (proj 5 x0) (proj 5 x1)) fun d4 =>
     ogd d4
      (ob (R.r F_slices_EqualFunc__api_Pat__api_Pat_api_Pat_api_Pat [((proj 6 x0), .val), ((proj 6 x1), .val), (.undef, (.fn 52 []))] []) fun q5 =>
      some (q5.1.getD 0 .undef))
      (some (.bool false))
      none)
     (some (.bool false))
     none)
    (some (.bool false))
    none)
   (some (.bool false))
   none) := evP_of [] (by kernel_rfl)
theorem fix_tree_samePat (x0 : DV) (x1 : DV) : (run cfg).p F_tree_samePat [x0, x1] = P_tree_samePat (run cfg) x0 x1 :=
  (fix_pure (C := cfg) (f := F_tree_samePat) (fn := Try.f52) (c := code_tree_samePat) (by kernel_rfl) Try.func52 (by kernel_rfl)).trans (by kernel_rfl)
theorem call_tree_samePat (x0 : DV) (x1 : DV) {d : DV} (h : P_tree_samePat (run cfg) x0 x1 = some d) : (run cfg).p F_tree_samePat [x0, x1] = some d := (fix_tree_samePat x0 x1).trans h

noncomputable def code_slices_EqualFunc__api_Expr__api_Expr_api_Expr_api_Expr : Code := Try.f53.body.getD .skip
noncomputable def P_slices_EqualFunc__api_Expr__api_Expr_api_Expr_api_Expr (R : Orc) (x0 : DV) (x1 : DV) (sg : List SObj) : Option (List DV × List SObj) := evP cfg R fl_slices_EqualFunc__api_Expr__api_Expr_api_Expr_api_Expr (retR cfg.P Try.f53 sig_slices_EqualFunc__api_Expr__api_Expr_api_Expr_api_Expr) [] code_slices_EqualFunc__api_Expr__api_Expr_api_Expr_api_Expr (initSt Try.f53 [(x0, .val), (x1, .val), (.undef, (.fn 27 []))] sg)
noncomputable def P_slices_EqualFunc__api_Expr__api_Expr_api_Expr_api_Expr_4h (R : Orc) (t1 : DV) (t15 : DV) (t16 : DV) (t17 : DV) (sg : List SObj) : Option (List DV × List SObj) := headP cfg R fl_slices_EqualFunc__api_Expr__api_Expr_api_Expr_api_Expr (retR cfg.P Try.f53 sig_slices_EqualFunc__api_Expr__api_Expr_api_Expr_api_Expr) [true, true, false, true, false] code_slices_EqualFunc__api_Expr__api_Expr_api_Expr_api_Expr ⟨spread .undef 32 0 [(1, t1), (15, t15), (16, t16), (17, t17)], spread .val 32 0 [(2, (.fn 27 []))], spread none 32 0 [], sg⟩
theorem eq_slices_EqualFunc__api_Expr__api_Expr_api_Expr_api_Expr (R : Orc) (x0 : DV) (x1 : DV) (sg : List SObj) : P_slices_EqualFunc__api_Expr__api_Expr_api_Expr_api_Expr R x0 x1 sg =
  (ob (dLen x0) fun d1 =>
  ob (dLen x1) fun d2 =>
  ob (dBin .neq d1 d2) fun d3 =>
  oif d3
   (some ([(.bool false)], sg))
   (ob (dLen x0) fun d4 =>
   P_slices_EqualFunc__api_Expr__api_Expr_api_Expr_api_Expr_4h R x1 x0 d4 (.int .i64 0) sg)) := evP_of [] (by kernel_rfl)
theorem eq_slices_EqualFunc__api_Expr__api_Expr_api_Expr_api_Expr_4h (R : Orc) (t1 : DV) (t15 : DV) (t16 : DV) (t17 : DV) (sg : List SObj) : P_slices_EqualFunc__api_Expr__api_Expr_api_Expr_api_Expr_4h R t1 t15 t16 t17 sg =
  (ob (dBin .lss t17 t16) fun d1 =>
  oif d1
   (ob (dIdx 16 t15 t17) fun d2 =>
   ob (dIdx 16 t1 t17) fun d3 =>
   ob (R.p F_tree_Same [(.agg [(proj 0 d2), (proj 1 d2), (proj 2 d2), (proj 3 d2), (proj 4 d2), (proj 5 d2), (proj 6 d2), (proj 7 d2), (proj 8 d2), (proj 9 d2), (proj 10 d2), (proj 11 d2), (proj 12 d2), (proj 13 d2), (proj 14 d2), (proj 15 d2)]), (.agg [(proj 0 d3), (proj 1 d3), (proj 2 d3), (proj 3 d3), (proj 4 d3), (proj 5 d3), (proj 6 d3), (proj 7 d3), (proj 8 d3), (proj 9 d3), (proj 10 d3), (proj 11 d3), (proj 12 d3), (proj 13 d3), (proj 14 d3), (proj 15 d3)])]) fun d4 =>
   ob (dUn .not d4) fun d5 =>
   oif d5
    (some ([(.bool false)], sg))
    (ob (dBin .add t17 (.int .i64 1)) fun d6 =>
    P_slices_EqualFunc__api_Expr__api_Expr_api_Expr_api_Expr_4h R t1 t15 t16 d6 sg))
   (some ([(.bool true)], sg))) := headP_of [] (by kernel_rfl)
theorem fix_slices_EqualFunc__api_Expr__api_Expr_api_Expr_api_Expr (x0 : DV) (x1 : DV) (sg : List SObj) : (run cfg).r F_slices_EqualFunc__api_Expr__api_Expr_api_Expr_api_Expr [(x0, .val), (x1, .val), (.undef, (.fn 27 []))] sg = P_slices_EqualFunc__api_Expr__api_Expr_api_Expr_api_Expr (run cfg) x0 x1 sg :=
  (fix_raw (C := cfg) (f := F_slices_EqualFunc__api_Expr__api_Expr_api_Expr_api_Expr) (s := sig_slices_EqualFunc__api_Expr__api_Expr_api_Expr_api_Expr) (fn := Try.f53) (c := code_slices_EqualFunc__api_Expr__api_Expr_api_Expr_api_Expr) (by kernel_rfl) Try.func53 (by kernel_rfl)).trans (by kernel_rfl)
theorem call_slices_EqualFunc__api_Expr__api_Expr_api_Expr_api_Expr (x0 : DV) (x1 : DV) (sg : List SObj) {q : List DV × List SObj} (h : P_slices_EqualFunc__api_Expr__api_Expr_api_Expr_api_Expr (run cfg) x0 x1 sg = some q) : (run cfg).r F_slices_EqualFunc__api_Expr__api_Expr_api_Expr_api_Expr [(x0, .val), (x1, .val), (.undef, (.fn 27 []))] sg = some q := (fix_slices_EqualFunc__api_Expr__api_Expr_api_Expr_api_Expr x0 x1 sg).trans h

noncomputable def code_r05_pat : Code := Try.f56.body.getD .skip
noncomputable def P_r05_pat (R : Orc) (x0 : DV) : Option DV := evP cfg R fl_r05_pat (retP cfg.P Try.f56) [] code_r05_pat (initSt Try.f56 [(x0, .val)] [])
noncomputable def P_r05_pat_25 (R : Orc) (t3 : DV) (b1 : DV) (b4_0 : DV) (b4_1 : DV) (b4_2 : DV) (b4_3 : DV) (b4_4 : DV) (b4_5 : DV) (b4_6 : DV) : Option DV := evP cfg R fl_r05_pat (retP cfg.P Try.f56) [true, true, true, true] code_r05_pat ⟨spread .undef 92 0 [(3, t3)], spread .val 92 0 [(1, (.loc 1 0)), (4, (.loc 4 0))], spread none 92 0 [(1, some [((proj 0 b1), .val), ((proj 1 b1), .val), ((proj 2 b1), .val), ((proj 3 b1), .val), ((proj 4 b1), .val), ((proj 5 b1), .val), ((proj 6 b1), .val)]), (4, some [(b4_0, .val), (b4_1, .val), (b4_2, .val), (b4_3, .val), (b4_4, .val), (b4_5, .val), (b4_6, .val)])], []⟩
noncomputable def P_r05_pat_28h (R : Orc) (t3 : DV) (t5 : DV) (b1 : DV) : Option DV := headP cfg R fl_r05_pat (retP cfg.P Try.f56) [true, true, true, true, true, false, true, false] code_r05_pat ⟨spread .undef 92 0 [(3, t3), (5, t5)], spread .val 92 0 [(1, (.loc 1 0))], spread none 92 0 [(1, some [((proj 0 b1), .val), ((proj 1 b1), .val), ((proj 2 b1), .val), ((proj 3 b1), .val), ((proj 4 b1), .val), ((proj 5 b1), .val), ((proj 6 b1), .val)])], []⟩
set_option maxRecDepth 100000 in
theorem eq_r05_pat (R : Orc) (x0 : DV) : P_r05_pat R x0 =
  (og (isAggN 7 x0) <|
  og (isCell (proj 0 x0)) <|
  ob (dBin .eql (proj 0 x0) (.int .i64 1)) fun d1 =>
  oif d1
   (P_r05_pat_25 R (.int .i64 0) x0 (proj 0 x0) (.int .i64 0) (.int .i64 0) (.str ⟨#[]⟩) (.int .i64 0) (.str ⟨#[]⟩) (.list 7 []))
   (ob (dBin .eql (proj 0 x0) (.int .i64 6)) fun d2 =>
   oif d2
    (P_r05_pat_25 R (.int .i64 0) x0 (proj 0 x0) (.int .i64 0) (.int .i64 0) (.str ⟨#[]⟩) (.int .i64 0) (.str ⟨#[]⟩) (.list 7 []))
    (ob (dBin .eql (proj 0 x0) (.int .i64 8)) fun d3 =>
    oif d3
     (P_r05_pat_25 R (.int .i64 0) x0 (proj 0 x0) (.int .i64 0) (.int .i64 0) (.str ⟨#[]⟩) (.int .i64 0) (.str ⟨#[]⟩) (.list 7 []))
     (ob (dBin .eql (proj 0 x0) (.int .i64 2)) fun d4 =>
     oif d4
      (og (isCell (proj 3 x0)) <|
      ob (R.p F_r01_Name [(proj 3 x0)]) fun d5 =>
      ob (dUn .not d5) fun d6 =>
      oif d6
       (some (.bool false))
       (P_r05_pat_25 R (.int .i64 0) x0 (proj 0 x0) (.int .i64 0) (.int .i64 0) (proj 3 x0) (.int .i64 0) (.str ⟨#[]⟩) (.list 7 [])))
      (ob (dBin .eql (proj 0 x0) (.int .i64 3)) fun d7 =>
      oif d7
       (og (isCell (proj 4 x0)) <|
       P_r05_pat_25 R (.int .i64 0) x0 (proj 0 x0) (.int .i64 0) (.int .i64 0) (.str ⟨#[]⟩) (proj 4 x0) (.str ⟨#[]⟩) (.list 7 []))
       (ob (dBin .eql (proj 0 x0) (.int .i64 4)) fun d8 =>
       oif d8
        (og (isCell (proj 4 x0)) <|
        ob (dBin .lss (proj 4 x0) (.int .i64 0)) fun d9 =>
        ogd d9
         (some (.bool false))
         (ob (dBin .gtr (proj 4 x0) (.int .i64 1)) fun d10 =>
         oif d10
          (some (.bool false))
          (P_r05_pat_25 R (.int .i64 0) x0 (proj 0 x0) (.int .i64 0) (.int .i64 0) (.str ⟨#[]⟩) (proj 4 x0) (.str ⟨#[]⟩) (.list 7 [])))
         none)
        (ob (dBin .eql (proj 0 x0) (.int .i64 5)) fun d11 =>
        oif d11
         (og (isCell (proj 5 x0)) <|
         ob (dLenS (proj 5 x0)) fun d12 =>
         ob (dBin .gtr d12 (.int .i64 200)) fun d13 =>
         oif d13
          (some (.bool false))
          (P_r05_pat_25 R (.int .i64 0) x0 (proj 0 x0) (.int .i64 0) (.int .i64 0) (.str ⟨#[]⟩) (.int .i64 0) (proj 5 x0) (.list 7 [])))
         (ob (dBin .eql (proj 0 x0) (.int .i64 7)) fun d14 =>
         oif d14
          (P_r05_pat_25 R (.int .i64 2) x0 (proj 0 x0) (.int .i64 0) (.int .i64 0) (.str ⟨#[]⟩) (.int .i64 0) (.str ⟨#[]⟩) (.list 7 []))
          (ob (dBin .eql (proj 0 x0) (.int .i64 9)) fun d15 =>
          oif d15
           (P_r05_pat_25 R (.int .i64 2) x0 (proj 0 x0) (.int .i64 0) (.int .i64 0) (.str ⟨#[]⟩) (.int .i64 0) (.str ⟨#[]⟩) (.list 7 []))
           (some (.bool false))))))))))) := evP_of [25] (by kernel_rfl)
set_option maxRecDepth 100000 in
theorem eq_r05_pat_25 (R : Orc) (t3 : DV) (b1 : DV) (b4_0 : DV) (b4_1 : DV) (b4_2 : DV) (b4_3 : DV) (b4_4 : DV) (b4_5 : DV) (b4_6 : DV) : P_r05_pat_25 R t3 b1 b4_0 b4_1 b4_2 b4_3 b4_4 b4_5 b4_6 =
  (ob (dLen (proj 6 b1)) fun d1 =>
  ob (dBin .neq d1 t3) fun d2 =>
  ogd d2
   (some (.bool false))
   (ob (dBin .neq (proj 3 b1) b4_3) fun d3 =>
   ogd d3
    (some (.bool false))
    (ob (dBin .neq (proj 4 b1) b4_4) fun d4 =>
    ogd d4
     (some (.bool false))
     (ob (dBin .neq (proj 5 b1) b4_5) fun d5 =>
     oif d5
      (some (.bool false))
      (P_r05_pat_28h R t3 (.int .i64 0) b1))
     none)
    none)
   none) := evP_of [25] (by kernel_rfl)
theorem eq_r05_pat_28h (R : Orc) (t3 : DV) (t5 : DV) (b1 : DV) : P_r05_pat_28h R t3 t5 b1 =
  (ob (dBin .lss t5 t3) fun d1 =>
  oif d1
   (ob (dIdx 7 (proj 6 b1) t5) fun d2 =>
   ob (R.p F_r05_pat [(.agg [(proj 0 d2), (proj 1 d2), (proj 2 d2), (proj 3 d2), (proj 4 d2), (proj 5 d2), (proj 6 d2)])]) fun d3 =>
   ob (dUn .not d3) fun d4 =>
   oif d4
    (some (.bool false))
    (ob (dBin .add t5 (.int .i64 1)) fun d5 =>
    P_r05_pat_28h R t3 d5 b1))
   (some (.bool true))) := headP_of [25] (by kernel_rfl)
theorem fix_r05_pat (x0 : DV) : (run cfg).p F_r05_pat [x0] = P_r05_pat (run cfg) x0 :=
  (fix_pure (C := cfg) (f := F_r05_pat) (fn := Try.f56) (c := code_r05_pat) (by kernel_rfl) Try.func56 (by kernel_rfl)).trans (by kernel_rfl)
theorem call_r05_pat (x0 : DV) {d : DV} (h : P_r05_pat (run cfg) x0 = some d) : (run cfg).p F_r05_pat [x0] = some d := (fix_r05_pat x0).trans h

noncomputable def code_word_Name : Code := Try.f59.body.getD .skip
noncomputable def P_word_Name (R : Orc) (x0 : DV) : Option DV := evP cfg R fl_word_Name (retP cfg.P Try.f59) [] code_word_Name (initSt Try.f59 [(x0, .val)] [])
noncomputable def P_word_Name_4h (R : Orc) (t0 : DV) (t3 : DV) : Option DV := headP cfg R fl_word_Name (retP cfg.P Try.f59) [true, true, false, true, false] code_word_Name ⟨spread .undef 37 0 [(0, t0), (3, t3)], spread .val 37 0 [], spread none 37 0 [], []⟩
set_option maxRecDepth 100000 in
theorem eq_word_Name (R : Orc) (x0 : DV) : P_word_Name R x0 =
  (ob (dLenS x0) fun d1 =>
  ob (dBin .lss d1 (.int .i64 1)) fun d2 =>
  ogd d2
   (some (.bool false))
   (ob (dLenS x0) fun d3 =>
   ob (dBin .gtr d3 (.int .i64 32)) fun d4 =>
   ogd d4
    (some (.bool false))
    (ob (dStrIdx x0 (.int .i64 0)) fun d5 =>
    ob (dBin .lss d5 (.int .u8 97)) fun d6 =>
    ogd d6
     (some (.bool false))
     (ob (dStrIdx x0 (.int .i64 0)) fun d7 =>
     ob (dBin .gtr d7 (.int .u8 122)) fun d8 =>
     ogd d8
      (some (.bool false))
      (ob (R.p F_word_Key [x0]) fun d9 =>
      oif d9
       (some (.bool false))
       (P_word_Name_4h R x0 (.int .i64 1)))
      none)
     none)
    none)
   none) := evP_of [] (by kernel_rfl)
theorem eq_word_Name_4h (R : Orc) (t0 : DV) (t3 : DV) : P_word_Name_4h R t0 t3 =
  (ob (dLenS t0) fun d1 =>
  ob (dBin .lss t3 d1) fun d2 =>
  oif d2
   (ob (dStrIdx t0 t3) fun d3 =>
   ob (R.p F_word_inner [d3]) fun d4 =>
   ob (dUn .not d4) fun d5 =>
   oif d5
    (some (.bool false))
    (ob (dBin .add t3 (.int .i64 1)) fun d6 =>
    P_word_Name_4h R t0 d6))
   (some (.bool true))) := headP_of [] (by kernel_rfl)
theorem fix_word_Name (x0 : DV) : (run cfg).p F_word_Name [x0] = P_word_Name (run cfg) x0 :=
  (fix_pure (C := cfg) (f := F_word_Name) (fn := Try.f59) (c := code_word_Name) (by kernel_rfl) Try.func59 (by kernel_rfl)).trans (by kernel_rfl)
theorem call_word_Name (x0 : DV) {d : DV} (h : P_word_Name (run cfg) x0 = some d) : (run cfg).p F_word_Name [x0] = some d := (fix_word_Name x0).trans h

noncomputable def code_tree_closed : Code := Try.f60.body.getD .skip
noncomputable def P_tree_closed (R : Orc) (x0 : DV) : Option DV := evP cfg R fl_tree_closed (retP cfg.P Try.f60) [] code_tree_closed (initSt Try.f60 [(x0, .val)] [])
theorem eq_tree_closed (R : Orc) (x0 : DV) : P_tree_closed R x0 =
  (og (isAggN 3 x0) <|
  ob (R.p F_typ_Check [(.agg [(proj 0 x0), (proj 1 x0), (proj 2 x0)])]) fun d1 =>
  ob (dBin .eql d1 (.int .i64 0)) fun d2 =>
  ogd d2
   (ob (R.p F_typ_Closed [(.agg [(proj 0 x0), (proj 1 x0), (proj 2 x0)])]) fun d3 =>
   some d3)
   (some (.bool false))
   none) := evP_of [] (by kernel_rfl)
theorem fix_tree_closed (x0 : DV) : (run cfg).p F_tree_closed [x0] = P_tree_closed (run cfg) x0 :=
  (fix_pure (C := cfg) (f := F_tree_closed) (fn := Try.f60) (c := code_tree_closed) (by kernel_rfl) Try.func60 (by kernel_rfl)).trans (by kernel_rfl)
theorem call_tree_closed (x0 : DV) {d : DV} (h : P_tree_closed (run cfg) x0 = some d) : (run cfg).p F_tree_closed [x0] = some d := (fix_tree_closed x0).trans h

noncomputable def code_tree_put : Code := Try.f61.body.getD .skip
noncomputable def P_tree_put (R : Orc) (x0 : DV) (x1 : DV) : Option DV := evP cfg R fl_tree_put (retP cfg.P Try.f61) [] code_tree_put (initSt Try.f61 [(x0, .val), (x1, .val)] [])
noncomputable def P_tree_put_3 (R : Orc) (t1 : DV) (b2_0 : DV) (b2_1 : DV) (b2_2 : DV) (b2_3 : DV) (b2_4 : DV) (b2_5 : DV) (b2_6 : DV) (b2_7 : DV) (b2_8 : DV) (b2_9 : DV) (b2_10 : DV) (b2_11 : DV) (b2_12 : DV) (b2_13 : DV) (b2_14 : DV) (b2_15 : DV) (b4_0 : DV) (b4_1 : DV) (b4_2 : DV) (b4_3 : DV) (b4_4 : DV) (b4_5 : DV) (b4_6 : DV) (b4_7 : DV) (b4_8 : DV) (b4_9 : DV) (b4_10 : DV) (b4_11 : DV) (b4_12 : DV) (b4_13 : DV) (b4_14 : DV) (b4_15 : DV) : Option DV := evP cfg R fl_tree_put (retP cfg.P Try.f61) [true, true] code_tree_put ⟨spread .undef 53 0 [(1, t1)], spread .val 53 0 [(2, (.loc 2 0)), (4, (.loc 4 0))], spread none 53 0 [(2, some [(b2_0, .val), (b2_1, .val), (b2_2, .val), (b2_3, .val), (b2_4, .val), (b2_5, .val), (b2_6, .val), (b2_7, .val), (b2_8, .val), (b2_9, .val), (b2_10, .val), (b2_11, .val), (b2_12, .val), (b2_13, .val), (b2_14, .val), (b2_15, .val)]), (4, some [(b4_0, .val), (b4_1, .val), (b4_2, .val), (b4_3, .val), (b4_4, .val), (b4_5, .val), (b4_6, .val), (b4_7, .val), (b4_8, .val), (b4_9, .val), (b4_10, .val), (b4_11, .val), (b4_12, .val), (b4_13, .val), (b4_14, .val), (b4_15, .val)])], []⟩
noncomputable def P_tree_put_5 (R : Orc) (t1 : DV) (b2_0 : DV) (b2_1 : DV) (b2_2 : DV) (b2_3 : DV) (b2_4 : DV) (b2_5 : DV) (b2_6 : DV) (b2_7 : DV) (b2_8 : DV) (b2_9 : DV) (b2_10 : DV) (b2_11 : DV) (b2_12 : DV) (b2_13 : DV) (b2_14 : DV) (b2_15 : DV) (b4_0 : DV) (b4_1 : DV) (b4_2 : DV) (b4_3 : DV) (b4_4 : DV) (b4_5 : DV) (b4_6 : DV) (b4_7 : DV) (b4_8 : DV) (b4_9 : DV) (b4_10 : DV) (b4_11 : DV) (b4_12 : DV) (b4_13 : DV) (b4_14 : DV) (b4_15 : DV) : Option DV := evP cfg R fl_tree_put (retP cfg.P Try.f61) [true, true, true] code_tree_put ⟨spread .undef 53 0 [(1, t1)], spread .val 53 0 [(2, (.loc 2 0)), (4, (.loc 4 0))], spread none 53 0 [(2, some [(b2_0, .val), (b2_1, .val), (b2_2, .val), (b2_3, .val), (b2_4, .val), (b2_5, .val), (b2_6, .val), (b2_7, .val), (b2_8, .val), (b2_9, .val), (b2_10, .val), (b2_11, .val), (b2_12, .val), (b2_13, .val), (b2_14, .val), (b2_15, .val)]), (4, some [(b4_0, .val), (b4_1, .val), (b4_2, .val), (b4_3, .val), (b4_4, .val), (b4_5, .val), (b4_6, .val), (b4_7, .val), (b4_8, .val), (b4_9, .val), (b4_10, .val), (b4_11, .val), (b4_12, .val), (b4_13, .val), (b4_14, .val), (b4_15, .val)])], []⟩
noncomputable def P_tree_put_7h (R : Orc) (t1 : DV) (t33r3 : Nat) (t34 : DV) (t35 : DV) (b2_0 : DV) (b2_1 : DV) (b2_2 : DV) (b2_3 : DV) (b2_4 : DV) (b2_5 : DV) (b2_6 : DV) (b2_7 : DV) (b2_8 : DV) (b2_9 : DV) (b2_10 : DV) (b2_11 : DV) (b2_12 : DV) (b2_13 : DV) (b2_14 : DV) (b2_15r3 : Nat) (b4_0 : DV) (b4_1 : DV) (b4_2 : DV) (b4_3 : DV) (b4_4 : DV) (b4_5 : DV) (b4_6 : DV) (b4_7 : DV) (b4_8 : DV) (b4_9 : DV) (b4_10 : DV) (b4_11 : DV) (b4_12 : DV) (b4_13 : DV) (b4_14 : DV) (b4_15 : DV) (sg : List SObj) : Option DV := headP cfg R fl_tree_put (retP cfg.P Try.f61) [true, true, true, true, false, true, false] code_tree_put ⟨spread .undef 53 0 [(1, t1), (34, t34), (35, t35)], spread .val 53 0 [(2, (.loc 2 0)), (4, (.loc 4 0)), (33, (.arr 0 16 0 t33r3))], spread none 53 0 [(2, some [(b2_0, .val), (b2_1, .val), (b2_2, .val), (b2_3, .val), (b2_4, .val), (b2_5, .val), (b2_6, .val), (b2_7, .val), (b2_8, .val), (b2_9, .val), (b2_10, .val), (b2_11, .val), (b2_12, .val), (b2_13, .val), (b2_14, .val), (.undef, (.arr 0 16 0 b2_15r3))]), (4, some [(b4_0, .val), (b4_1, .val), (b4_2, .val), (b4_3, .val), (b4_4, .val), (b4_5, .val), (b4_6, .val), (b4_7, .val), (b4_8, .val), (b4_9, .val), (b4_10, .val), (b4_11, .val), (b4_12, .val), (b4_13, .val), (b4_14, .val), (b4_15, .val)])], sg⟩
theorem eq_tree_put (R : Orc) (x0 : DV) (x1 : DV) : P_tree_put R x0 x1 =
  (og (isAggN 16 x0) <|
  ob (R.p F_tree_none [(.agg [(proj 8 x0), (proj 9 x0), (proj 10 x0)])]) fun d1 =>
  ob (dUn .not d1) fun d2 =>
  oif d2
   (ob (dIdx 3 x1 (.int .i64 0)) fun d3 =>
   ob (dSlice 3 x1 (some (.int .i64 1)) none) fun d4 =>
   P_tree_put_3 R d4 (proj 0 x0) (proj 1 x0) (proj 2 x0) (proj 3 x0) (proj 4 x0) (proj 5 x0) (proj 6 x0) (proj 7 x0) (proj 0 d3) (proj 1 d3) (proj 2 d3) (proj 11 x0) (proj 12 x0) (proj 13 x0) (proj 14 x0) (proj 15 x0) (.int .i64 0) (.int .i64 0) (.int .i64 0) (.str ⟨#[]⟩) (.str ⟨#[]⟩) (.int .i64 0) (.str ⟨#[]⟩) (.int .i64 0) (.int .i64 0) (.int .i64 0) (.list 3 []) (.int .i64 0) (.int .i64 0) (.list 3 []) (.list 7 []) (.list 16 []))
   (P_tree_put_3 R x1 (proj 0 x0) (proj 1 x0) (proj 2 x0) (proj 3 x0) (proj 4 x0) (proj 5 x0) (proj 6 x0) (proj 7 x0) (proj 8 x0) (proj 9 x0) (proj 10 x0) (proj 11 x0) (proj 12 x0) (proj 13 x0) (proj 14 x0) (proj 15 x0) (.int .i64 0) (.int .i64 0) (.int .i64 0) (.str ⟨#[]⟩) (.str ⟨#[]⟩) (.int .i64 0) (.str ⟨#[]⟩) (.int .i64 0) (.int .i64 0) (.int .i64 0) (.list 3 []) (.int .i64 0) (.int .i64 0) (.list 3 []) (.list 7 []) (.list 16 []))) := evP_of [3, 5] (by kernel_rfl)
theorem eq_tree_put_3 (R : Orc) (t1 : DV) (b2_0 : DV) (b2_1 : DV) (b2_2 : DV) (b2_3 : DV) (b2_4 : DV) (b2_5 : DV) (b2_6 : DV) (b2_7 : DV) (b2_8 : DV) (b2_9 : DV) (b2_10 : DV) (b2_11 : DV) (b2_12 : DV) (b2_13 : DV) (b2_14 : DV) (b2_15 : DV) (b4_0 : DV) (b4_1 : DV) (b4_2 : DV) (b4_3 : DV) (b4_4 : DV) (b4_5 : DV) (b4_6 : DV) (b4_7 : DV) (b4_8 : DV) (b4_9 : DV) (b4_10 : DV) (b4_11 : DV) (b4_12 : DV) (b4_13 : DV) (b4_14 : DV) (b4_15 : DV) : P_tree_put_3 R t1 b2_0 b2_1 b2_2 b2_3 b2_4 b2_5 b2_6 b2_7 b2_8 b2_9 b2_10 b2_11 b2_12 b2_13 b2_14 b2_15 b4_0 b4_1 b4_2 b4_3 b4_4 b4_5 b4_6 b4_7 b4_8 b4_9 b4_10 b4_11 b4_12 b4_13 b4_14 b4_15 =
  (ob (R.p F_tree_none [(.agg [b2_11, b2_12, b2_13])]) fun d1 =>
  ob (dUn .not d1) fun d2 =>
  oif d2
   (ob (dIdx 3 t1 (.int .i64 0)) fun d3 =>
   ob (dSlice 3 t1 (some (.int .i64 1)) none) fun d4 =>
   P_tree_put_5 R d4 b2_0 b2_1 b2_2 b2_3 b2_4 b2_5 b2_6 b2_7 b2_8 b2_9 b2_10 (proj 0 d3) (proj 1 d3) (proj 2 d3) b2_14 b2_15 b4_0 b4_1 b4_2 b4_3 b4_4 b4_5 b4_6 b4_7 b4_8 b4_9 b4_10 b4_11 b4_12 b4_13 b4_14 b4_15)
   (P_tree_put_5 R t1 b2_0 b2_1 b2_2 b2_3 b2_4 b2_5 b2_6 b2_7 b2_8 b2_9 b2_10 b2_11 b2_12 b2_13 b2_14 b2_15 b4_0 b4_1 b4_2 b4_3 b4_4 b4_5 b4_6 b4_7 b4_8 b4_9 b4_10 b4_11 b4_12 b4_13 b4_14 b4_15)) := evP_of [3, 5] (by kernel_rfl)
theorem eq_tree_put_5 (R : Orc) (t1 : DV) (b2_0 : DV) (b2_1 : DV) (b2_2 : DV) (b2_3 : DV) (b2_4 : DV) (b2_5 : DV) (b2_6 : DV) (b2_7 : DV) (b2_8 : DV) (b2_9 : DV) (b2_10 : DV) (b2_11 : DV) (b2_12 : DV) (b2_13 : DV) (b2_14 : DV) (b2_15 : DV) (b4_0 : DV) (b4_1 : DV) (b4_2 : DV) (b4_3 : DV) (b4_4 : DV) (b4_5 : DV) (b4_6 : DV) (b4_7 : DV) (b4_8 : DV) (b4_9 : DV) (b4_10 : DV) (b4_11 : DV) (b4_12 : DV) (b4_13 : DV) (b4_14 : DV) (b4_15 : DV) : P_tree_put_5 R t1 b2_0 b2_1 b2_2 b2_3 b2_4 b2_5 b2_6 b2_7 b2_8 b2_9 b2_10 b2_11 b2_12 b2_13 b2_14 b2_15 b4_0 b4_1 b4_2 b4_3 b4_4 b4_5 b4_6 b4_7 b4_8 b4_9 b4_10 b4_11 b4_12 b4_13 b4_14 b4_15 =
  (ob (dList b2_15) fun p1 =>
  og (true && p1.1 == 16 && decide (p1.2.length ≤ lim)) <|
  P_tree_put_7h R t1 (p1.2.length) (.int .i64 p1.2.length) (.int .i64 0) b2_0 b2_1 b2_2 b2_3 b2_4 b2_5 b2_6 b2_7 b2_8 b2_9 b2_10 b2_11 b2_12 b2_13 b2_14 (p1.2.length) b4_0 b4_1 b4_2 b4_3 b4_4 b4_5 b4_6 b4_7 b4_8 b4_9 b4_10 b4_11 b4_12 b4_13 b4_14 b4_15 [.arr 16 p1.2]) := evP_of [3, 5] (by kernel_rfl)
theorem eq_tree_put_7h (R : Orc) (t1 : DV) (t33r3 : Nat) (t34 : DV) (t35 : DV) (b2_0 : DV) (b2_1 : DV) (b2_2 : DV) (b2_3 : DV) (b2_4 : DV) (b2_5 : DV) (b2_6 : DV) (b2_7 : DV) (b2_8 : DV) (b2_9 : DV) (b2_10 : DV) (b2_11 : DV) (b2_12 : DV) (b2_13 : DV) (b2_14 : DV) (b2_15r3 : Nat) (b4_0 : DV) (b4_1 : DV) (b4_2 : DV) (b4_3 : DV) (b4_4 : DV) (b4_5 : DV) (b4_6 : DV) (b4_7 : DV) (b4_8 : DV) (b4_9 : DV) (b4_10 : DV) (b4_11 : DV) (b4_12 : DV) (b4_13 : DV) (b4_14 : DV) (b4_15 : DV) (sg : List SObj) : P_tree_put_7h R t1 t33r3 t34 t35 b2_0 b2_1 b2_2 b2_3 b2_4 b2_5 b2_6 b2_7 b2_8 b2_9 b2_10 b2_11 b2_12 b2_13 b2_14 b2_15r3 b4_0 b4_1 b4_2 b4_3 b4_4 b4_5 b4_6 b4_7 b4_8 b4_9 b4_10 b4_11 b4_12 b4_13 b4_14 b4_15 sg =
  (ob (dBin .lss t35 t34) fun d1 =>
  oif d1
   (ob (arrIdx 0 t33r3 t35) fun n2 =>
   ob (sgArr sg 0) fun r3 =>
   ob (r3.2[n2]?) fun d4 =>
   og (r3.1 == 16) <|
   ob (R.p F_tree_put [(.agg [(proj 0 d4), (proj 1 d4), (proj 2 d4), (proj 3 d4), (proj 4 d4), (proj 5 d4), (proj 6 d4), (proj 7 d4), (proj 8 d4), (proj 9 d4), (proj 10 d4), (proj 11 d4), (proj 12 d4), (proj 13 d4), (proj 14 d4), (proj 15 d4)]), t1]) fun d5 =>
   ob (dExt 0 d5) fun d6 =>
   ob (dExt 1 d5) fun d7 =>
   ob (arrIdx 0 b2_15r3 t35) fun n8 =>
   ob (sgArr sg 0) fun r9 =>
   ob (r9.2[n8]?) fun u10 =>
   og (isAggN 16 d6) <|
   og (r9.1 == 16) <|
   ob (dBin .add t35 (.int .i64 1)) fun d11 =>
   P_tree_put_7h R d7 t33r3 t34 d11 b2_0 b2_1 b2_2 b2_3 b2_4 b2_5 b2_6 b2_7 b2_8 b2_9 b2_10 b2_11 b2_12 b2_13 b2_14 b2_15r3 b4_0 b4_1 b4_2 b4_3 b4_4 b4_5 b4_6 b4_7 b4_8 b4_9 b4_10 b4_11 b4_12 b4_13 b4_14 b4_15 (sg.set 0 (.arr 16 (r9.2.set n8 d6))))
   (retL [ob (sealCells sg [(b2_0, .val), (b2_1, .val), (b2_2, .val), (b2_3, .val), (b2_4, .val), (b2_5, .val), (b2_6, .val), (b2_7, .val), (b2_8, .val), (b2_9, .val), (b2_10, .val), (b2_11, .val), (b2_12, .val), (b2_13, .val), (b2_14, .val), (.undef, (.arr 0 16 0 b2_15r3))]) fun ds => some (.agg ds), some t1])) := headP_of [3, 5] (by kernel_rfl)
theorem fix_tree_put (x0 : DV) (x1 : DV) : (run cfg).p F_tree_put [x0, x1] = P_tree_put (run cfg) x0 x1 :=
  (fix_pure (C := cfg) (f := F_tree_put) (fn := Try.f61) (c := code_tree_put) (by kernel_rfl) Try.func61 (by kernel_rfl)).trans (by kernel_rfl)
theorem call_tree_put (x0 : DV) (x1 : DV) {d : DV} (h : P_tree_put (run cfg) x0 x1 = some d) : (run cfg).p F_tree_put [x0, x1] = some d := (fix_tree_put x0 x1).trans h

noncomputable def code_l05_countType : Code := Try.f62.body.getD .skip
noncomputable def P_l05_countType (R : Orc) (x0 : DV) (x1 : DV) : Option DV := evP cfg R fl_l05_countType (retP cfg.P Try.f62) [] code_l05_countType (initSt Try.f62 [(x0, .val), (x1, .val)] [])
noncomputable def P_l05_countType_2h (R : Orc) (t1 : DV) (t5 : DV) (b2 : DV) : Option DV := headP cfg R fl_l05_countType (retP cfg.P Try.f62) [true, false, true, false] code_l05_countType ⟨spread .undef 26 0 [(1, t1), (5, t5)], spread .val 26 0 [(2, (.loc 2 0))], spread none 26 0 [(2, some [((proj 0 b2), .val), ((proj 1 b2), .val), ((proj 2 b2), .val)])], []⟩
theorem eq_l05_countType (R : Orc) (x0 : DV) (x1 : DV) : P_l05_countType R x0 x1 =
  (og (isAggN 3 x0) <|
  P_l05_countType_2h R x1 (.int .i64 0) x0) := evP_of [] (by kernel_rfl)
theorem eq_l05_countType_2h (R : Orc) (t1 : DV) (t5 : DV) (b2 : DV) : P_l05_countType_2h R t1 t5 b2 =
  (ob (dLen (proj 2 b2)) fun d1 =>
  ob (dBin .lss t5 d1) fun d2 =>
  ogd d2
   (ob (dBin .leq t1 (.int .i64 400)) fun d3 =>
   oif d3
    (ob (dIdx 3 (proj 2 b2) t5) fun d4 =>
    ob (dBin .add t1 (.int .i64 1)) fun d5 =>
    ob (R.p F_l05_countType [(.agg [(proj 0 d4), (proj 1 d4), (proj 2 d4)]), d5]) fun d6 =>
    ob (dBin .add t5 (.int .i64 1)) fun d7 =>
    P_l05_countType_2h R d6 d7 b2)
    (some t1))
   (some t1)
   none) := headP_of [] (by kernel_rfl)
theorem fix_l05_countType (x0 : DV) (x1 : DV) : (run cfg).p F_l05_countType [x0, x1] = P_l05_countType (run cfg) x0 x1 :=
  (fix_pure (C := cfg) (f := F_l05_countType) (fn := Try.f62) (c := code_l05_countType) (by kernel_rfl) Try.func62 (by kernel_rfl)).trans (by kernel_rfl)
theorem call_l05_countType (x0 : DV) (x1 : DV) {d : DV} (h : P_l05_countType (run cfg) x0 x1 = some d) : (run cfg).p F_l05_countType [x0, x1] = some d := (fix_l05_countType x0 x1).trans h

noncomputable def code_r05_fields : Code := Try.f63.body.getD .skip
noncomputable def P_r05_fields (R : Orc) (x0 : DV) : Option DV := evP cfg R fl_r05_fields (retP cfg.P Try.f63) [] code_r05_fields (initSt Try.f63 [(x0, .val)] [])
noncomputable def P_r05_fields_20 (R : Orc) (b1 : DV) (b2_0 : DV) (b2_1 : DV) (b2_2 : DV) (b2_3 : DV) (b2_4 : DV) (b2_5 : DV) (b2_6 : DV) (b2_7 : DV) (b2_8 : DV) (b2_9 : DV) (b2_10 : DV) (b2_11 : DV) (b2_12 : DV) (b2_13 : DV) (b2_14 : DV) (b2_15 : DV) (b4_0 : DV) (b4_1 : DV) (b4_2 : DV) (b4_3 : DV) (b4_4 : DV) (b4_5 : DV) (b4_6 : DV) (b4_7 : DV) (b4_8 : DV) (b4_9 : DV) (b4_10 : DV) (b4_11 : DV) (b4_12 : DV) (b4_13 : DV) (b4_14 : DV) (b4_15 : DV) : Option DV := evP cfg R fl_r05_fields (retP cfg.P Try.f63) [true, true, true, false, true, false, true, true, true, true, true, true, true, true, true, true, true, false] code_r05_fields ⟨spread .undef 85 0 [], spread .val 85 0 [(1, (.loc 1 0)), (2, (.loc 2 0)), (4, (.loc 4 0))], spread none 85 0 [(1, some [((proj 0 b1), .val), ((proj 1 b1), .val), ((proj 2 b1), .val), ((proj 3 b1), .val), ((proj 4 b1), .val), ((proj 5 b1), .val), ((proj 6 b1), .val), ((proj 7 b1), .val), ((proj 8 b1), .val), ((proj 9 b1), .val), ((proj 10 b1), .val), ((proj 11 b1), .val), ((proj 12 b1), .val), ((proj 13 b1), .val), ((proj 14 b1), .val), ((proj 15 b1), .val)]), (2, some [(b2_0, .val), (b2_1, .val), (b2_2, .val), (b2_3, .val), (b2_4, .val), (b2_5, .val), (b2_6, .val), (b2_7, .val), (b2_8, .val), (b2_9, .val), (b2_10, .val), (b2_11, .val), (b2_12, .val), (b2_13, .val), (b2_14, .val), (b2_15, .val)]), (4, some [(b4_0, .val), (b4_1, .val), (b4_2, .val), (b4_3, .val), (b4_4, .val), (b4_5, .val), (b4_6, .val), (b4_7, .val), (b4_8, .val), (b4_9, .val), (b4_10, .val), (b4_11, .val), (b4_12, .val), (b4_13, .val), (b4_14, .val), (b4_15, .val)])], []⟩
set_option maxRecDepth 100000 in
theorem eq_r05_fields (R : Orc) (x0 : DV) : P_r05_fields R x0 =
  (og (isAggN 16 x0) <|
  og (isCell (proj 0 x0)) <|
  ob (dBin .eql (proj 0 x0) (.int .i64 1)) fun d1 =>
  oif d1
   (og (isCell (proj 3 x0)) <|
   some (.tup [(.agg [(proj 0 x0), (.int .i64 0), (.int .i64 0), (proj 3 x0), (.str ⟨#[]⟩), (.int .i64 0), (.str ⟨#[]⟩), (.int .i64 0), (.int .i64 0), (.int .i64 0), (.list 3 []), (.int .i64 0), (.int .i64 0), (.list 3 []), (.list 7 []), (.list 16 [])]), (.int .i64 0)]))
   (ob (dBin .eql (proj 0 x0) (.int .i64 2)) fun d2 =>
   oif d2
    (og (isCell (proj 5 x0)) <|
    some (.tup [(.agg [(proj 0 x0), (.int .i64 0), (.int .i64 0), (.str ⟨#[]⟩), (.str ⟨#[]⟩), (proj 5 x0), (.str ⟨#[]⟩), (.int .i64 0), (.int .i64 0), (.int .i64 0), (.list 3 []), (.int .i64 0), (.int .i64 0), (.list 3 []), (.list 7 []), (.list 16 [])]), (.int .i64 0)]))
    (ob (dBin .eql (proj 0 x0) (.int .i64 3)) fun d3 =>
    oif d3
     (og (isCell (proj 5 x0)) <|
     some (.tup [(.agg [(proj 0 x0), (.int .i64 0), (.int .i64 0), (.str ⟨#[]⟩), (.str ⟨#[]⟩), (proj 5 x0), (.str ⟨#[]⟩), (.int .i64 0), (.int .i64 0), (.int .i64 0), (.list 3 []), (.int .i64 0), (.int .i64 0), (.list 3 []), (.list 7 []), (.list 16 [])]), (.int .i64 0)]))
     (ob (dBin .eql (proj 0 x0) (.int .i64 4)) fun d4 =>
     oif d4
      (og (isCell (proj 6 x0)) <|
      some (.tup [(.agg [(proj 0 x0), (.int .i64 0), (.int .i64 0), (.str ⟨#[]⟩), (.str ⟨#[]⟩), (.int .i64 0), (proj 6 x0), (.int .i64 0), (.int .i64 0), (.int .i64 0), (.list 3 []), (.int .i64 0), (.int .i64 0), (.list 3 []), (.list 7 []), (.list 16 [])]), (.int .i64 0)]))
      (ob (dBin .eql (proj 0 x0) (.int .i64 5)) fun d5 =>
      oif d5
       (some (.tup [(.agg [(proj 0 x0), (.int .i64 0), (.int .i64 0), (.str ⟨#[]⟩), (.str ⟨#[]⟩), (.int .i64 0), (.str ⟨#[]⟩), (.int .i64 0), (.int .i64 0), (.int .i64 0), (.list 3 []), (.int .i64 0), (.int .i64 0), (.list 3 []), (.list 7 []), (.list 16 [])]), (.int .i64 0)]))
       (ob (dBin .eql (proj 0 x0) (.int .i64 7)) fun d6 =>
       oif d6
        (some (.tup [(.agg [(proj 0 x0), (.int .i64 0), (.int .i64 0), (.str ⟨#[]⟩), (.str ⟨#[]⟩), (.int .i64 0), (.str ⟨#[]⟩), (.int .i64 0), (.int .i64 0), (.int .i64 0), (.list 3 []), (.int .i64 0), (.int .i64 0), (.list 3 []), (.list 7 []), (.list 16 [])]), (.int .i64 0)]))
        (ob (dBin .eql (proj 0 x0) (.int .i64 6)) fun d7 =>
        oif d7
         (some (.tup [(.agg [(proj 0 x0), (.int .i64 0), (.int .i64 0), (.str ⟨#[]⟩), (.str ⟨#[]⟩), (.int .i64 0), (.str ⟨#[]⟩), (.int .i64 0), (.int .i64 0), (.int .i64 0), (.list 3 []), (.int .i64 0), (.int .i64 0), (.list 3 []), (.list 7 []), (.list 16 [])]), (.int .i64 2)]))
         (ob (dBin .eql (proj 0 x0) (.int .i64 8)) fun d8 =>
         oif d8
          (some (.tup [(.agg [(proj 0 x0), (.int .i64 0), (.int .i64 0), (.str ⟨#[]⟩), (.str ⟨#[]⟩), (.int .i64 0), (.str ⟨#[]⟩), (.int .i64 0), (.int .i64 0), (.int .i64 0), (.list 3 []), (.int .i64 0), (.int .i64 0), (.list 3 []), (.list 7 []), (.list 16 [])]), (.int .i64 2)]))
          (ob (dBin .eql (proj 0 x0) (.int .i64 10)) fun d9 =>
          oif d9
           (some (.tup [(.agg [(proj 0 x0), (.int .i64 0), (.int .i64 0), (.str ⟨#[]⟩), (.str ⟨#[]⟩), (.int .i64 0), (.str ⟨#[]⟩), (.int .i64 0), (.int .i64 0), (.int .i64 0), (.list 3 []), (.int .i64 0), (.int .i64 0), (.list 3 []), (.list 7 []), (.list 16 [])]), (.int .i64 2)]))
           (ob (dBin .eql (proj 0 x0) (.int .i64 9)) fun d10 =>
           oif d10
            (P_r05_fields_20 R x0 (.int .i64 0) (.int .i64 0) (.int .i64 0) (.str ⟨#[]⟩) (.str ⟨#[]⟩) (.int .i64 0) (.str ⟨#[]⟩) (.int .i64 0) (.int .i64 0) (.int .i64 0) (.list 3 []) (.int .i64 0) (.int .i64 0) (.list 3 []) (.list 7 []) (.list 16 []) (proj 0 x0) (.int .i64 0) (.int .i64 0) (.str ⟨#[]⟩) (.str ⟨#[]⟩) (.int .i64 0) (.str ⟨#[]⟩) (.int .i64 0) (.int .i64 0) (.int .i64 0) (.list 3 []) (.int .i64 0) (.int .i64 0) (.list 3 []) (.list 7 []) (.list 16 []))
            (ob (dBin .eql (proj 0 x0) (.int .i64 11)) fun d11 =>
            oif d11
             (P_r05_fields_20 R x0 (.int .i64 0) (.int .i64 0) (.int .i64 0) (.str ⟨#[]⟩) (.str ⟨#[]⟩) (.int .i64 0) (.str ⟨#[]⟩) (.int .i64 0) (.int .i64 0) (.int .i64 0) (.list 3 []) (.int .i64 0) (.int .i64 0) (.list 3 []) (.list 7 []) (.list 16 []) (proj 0 x0) (.int .i64 0) (.int .i64 0) (.str ⟨#[]⟩) (.str ⟨#[]⟩) (.int .i64 0) (.str ⟨#[]⟩) (.int .i64 0) (.int .i64 0) (.int .i64 0) (.list 3 []) (.int .i64 0) (.int .i64 0) (.list 3 []) (.list 7 []) (.list 16 []))
             (ob (dBin .eql (proj 0 x0) (.int .i64 12)) fun d12 =>
             oif d12
              (og (isCell (proj 3 x0)) <|
              og (isCell (proj 4 x0)) <|
              some (.tup [(.agg [(proj 0 x0), (.int .i64 0), (.int .i64 0), (proj 3 x0), (proj 4 x0), (.int .i64 0), (.str ⟨#[]⟩), (.int .i64 0), (proj 8 x0), (proj 9 x0), (proj 10 x0), (proj 11 x0), (proj 12 x0), (proj 13 x0), (.list 7 []), (.list 16 [])]), (.int .i64 2)]))
              (ob (dBin .eql (proj 0 x0) (.int .i64 13)) fun d13 =>
              oif d13
               (some (.tup [(.agg [(proj 0 x0), (.int .i64 0), (.int .i64 0), (.str ⟨#[]⟩), (.str ⟨#[]⟩), (.int .i64 0), (.str ⟨#[]⟩), (.int .i64 0), (.int .i64 0), (.int .i64 0), (.list 3 []), (.int .i64 0), (.int .i64 0), (.list 3 []), (.list 7 []), (.list 16 [])]), (.int .i64 3)]))
               (ob (dBin .eql (proj 0 x0) (.int .i64 14)) fun d14 =>
               oif d14
                (ob (dLen (proj 14 x0)) fun d15 =>
                ob (dBin .add (.int .i64 1) d15) fun d16 =>
                og (isCell (proj 14 x0)) <|
                some (.tup [(.agg [(proj 0 x0), (.int .i64 0), (.int .i64 0), (.str ⟨#[]⟩), (.str ⟨#[]⟩), (.int .i64 0), (.str ⟨#[]⟩), (.int .i64 0), (.int .i64 0), (.int .i64 0), (.list 3 []), (.int .i64 0), (.int .i64 0), (.list 3 []), (proj 14 x0), (.list 16 [])]), d16]))
                (ob (dBin .eql (proj 0 x0) (.int .i64 15)) fun d17 =>
                oif d17
                 (some (.tup [(.agg [(proj 0 x0), (.int .i64 0), (.int .i64 0), (.str ⟨#[]⟩), (.str ⟨#[]⟩), (.int .i64 0), (.str ⟨#[]⟩), (.int .i64 0), (proj 8 x0), (proj 9 x0), (proj 10 x0), (.int .i64 0), (.int .i64 0), (.list 3 []), (.list 7 []), (.list 16 [])]), (.int .i64 1)]))
                 (ob (dBin .eql (proj 0 x0) (.int .i64 16)) fun d18 =>
                 oif d18
                  (og (isCell (proj 7 x0)) <|
                  some (.tup [(.agg [(proj 0 x0), (.int .i64 0), (.int .i64 0), (.str ⟨#[]⟩), (.str ⟨#[]⟩), (.int .i64 0), (.str ⟨#[]⟩), (proj 7 x0), (.int .i64 0), (.int .i64 0), (.list 3 []), (.int .i64 0), (.int .i64 0), (.list 3 []), (.list 7 []), (.list 16 [])]), (.int .i64 2)]))
                  (some (.tup [(.agg [(proj 0 x0), (.int .i64 0), (.int .i64 0), (.str ⟨#[]⟩), (.str ⟨#[]⟩), (.int .i64 0), (.str ⟨#[]⟩), (.int .i64 0), (.int .i64 0), (.int .i64 0), (.list 3 []), (.int .i64 0), (.int .i64 0), (.list 3 []), (.list 7 []), (.list 16 [])]), (.int .i64 (-1))])))))))))))))))))) := evP_of [20] (by kernel_rfl)
theorem eq_r05_fields_20 (R : Orc) (b1 : DV) (b2_0 : DV) (b2_1 : DV) (b2_2 : DV) (b2_3 : DV) (b2_4 : DV) (b2_5 : DV) (b2_6 : DV) (b2_7 : DV) (b2_8 : DV) (b2_9 : DV) (b2_10 : DV) (b2_11 : DV) (b2_12 : DV) (b2_13 : DV) (b2_14 : DV) (b2_15 : DV) (b4_0 : DV) (b4_1 : DV) (b4_2 : DV) (b4_3 : DV) (b4_4 : DV) (b4_5 : DV) (b4_6 : DV) (b4_7 : DV) (b4_8 : DV) (b4_9 : DV) (b4_10 : DV) (b4_11 : DV) (b4_12 : DV) (b4_13 : DV) (b4_14 : DV) (b4_15 : DV) : P_r05_fields_20 R b1 b2_0 b2_1 b2_2 b2_3 b2_4 b2_5 b2_6 b2_7 b2_8 b2_9 b2_10 b2_11 b2_12 b2_13 b2_14 b2_15 b4_0 b4_1 b4_2 b4_3 b4_4 b4_5 b4_6 b4_7 b4_8 b4_9 b4_10 b4_11 b4_12 b4_13 b4_14 b4_15 =
  (og (isCell (proj 3 b1)) <|
  ob (dBin .sub (proj 0 b1) (.int .i64 9)) fun d1 =>
  ob (dBin .quo d1 (.int .i64 2)) fun d2 =>
  ob (dBin .add (.int .i64 1) d2) fun d3 =>
  some (.tup [(.agg [b4_0, b4_1, b4_2, (proj 3 b1), b4_4, b4_5, b4_6, b4_7, (proj 8 b1), (proj 9 b1), (proj 10 b1), b4_11, b4_12, b4_13, b4_14, b4_15]), d3])) := evP_of [20] (by kernel_rfl)
theorem fix_r05_fields (x0 : DV) : (run cfg).p F_r05_fields [x0] = P_r05_fields (run cfg) x0 :=
  (fix_pure (C := cfg) (f := F_r05_fields) (fn := Try.f63) (c := code_r05_fields) (by kernel_rfl) Try.func63 (by kernel_rfl)).trans (by kernel_rfl)
theorem call_r05_fields (x0 : DV) {d : DV} (h : P_r05_fields (run cfg) x0 = some d) : (run cfg).p F_r05_fields [x0] = some d := (fix_r05_fields x0).trans h

noncomputable def code_r03_Same : Code := Try.f64.body.getD .skip
noncomputable def P_r03_Same (R : Orc) (x0 : DV) (x1 : DV) : Option DV := evP cfg R fl_r03_Same (retP cfg.P Try.f64) [] code_r03_Same (initSt Try.f64 [(x0, .val), (x1, .val)] [])
noncomputable def P_r03_Same_4h (R : Orc) (t5 : DV) (b2 : DV) (b3 : DV) : Option DV := headP cfg R fl_r03_Same (retP cfg.P Try.f64) [true, true, false, true, false] code_r03_Same ⟨spread .undef 46 0 [(5, t5)], spread .val 46 0 [(2, (.loc 2 0)), (3, (.loc 3 0))], spread none 46 0 [(2, some [((proj 0 b2), .val), ((proj 1 b2), .val), ((proj 2 b2), .val)]), (3, some [((proj 0 b3), .val), ((proj 1 b3), .val), ((proj 2 b3), .val)])], []⟩
set_option maxRecDepth 100000 in
theorem eq_r03_Same (R : Orc) (x0 : DV) (x1 : DV) : P_r03_Same R x0 x1 =
  (og (isAggN 3 x0) <|
  og (isAggN 3 x1) <|
  ob (dBin .neq (proj 0 x0) (proj 0 x1)) fun d1 =>
  ogd d1
   (some (.bool false))
   (ob (dBin .neq (proj 1 x0) (proj 1 x1)) fun d2 =>
   ogd d2
    (some (.bool false))
    (ob (dLen (proj 2 x0)) fun d3 =>
    ob (dLen (proj 2 x1)) fun d4 =>
    ob (dBin .neq d3 d4) fun d5 =>
    oif d5
     (some (.bool false))
     (P_r03_Same_4h R (.int .i64 0) x0 x1))
    none)
   none) := evP_of [] (by kernel_rfl)
theorem eq_r03_Same_4h (R : Orc) (t5 : DV) (b2 : DV) (b3 : DV) : P_r03_Same_4h R t5 b2 b3 =
  (ob (dLen (proj 2 b2)) fun d1 =>
  ob (dBin .lss t5 d1) fun d2 =>
  oif d2
   (ob (dIdx 3 (proj 2 b2) t5) fun d3 =>
   ob (dIdx 3 (proj 2 b3) t5) fun d4 =>
   ob (R.p F_r03_Same [(.agg [(proj 0 d3), (proj 1 d3), (proj 2 d3)]), (.agg [(proj 0 d4), (proj 1 d4), (proj 2 d4)])]) fun d5 =>
   ob (dUn .not d5) fun d6 =>
   oif d6
    (some (.bool false))
    (ob (dBin .add t5 (.int .i64 1)) fun d7 =>
    P_r03_Same_4h R d7 b2 b3))
   (some (.bool true))) := headP_of [] (by kernel_rfl)
theorem fix_r03_Same (x0 : DV) (x1 : DV) : (run cfg).p F_r03_Same [x0, x1] = P_r03_Same (run cfg) x0 x1 :=
  (fix_pure (C := cfg) (f := F_r03_Same) (fn := Try.f64) (c := code_r03_Same) (by kernel_rfl) Try.func64 (by kernel_rfl)).trans (by kernel_rfl)
theorem call_r03_Same (x0 : DV) (x1 : DV) {d : DV} (h : P_r03_Same (run cfg) x0 x1 = some d) : (run cfg).p F_r03_Same [x0, x1] = some d := (fix_r03_Same x0 x1).trans h

noncomputable def code_r05_note : Code := Try.f65.body.getD .skip
noncomputable def P_r05_note (R : Orc) (x0 : DV) (x1 : DV) : Option DV := evP cfg R fl_r05_note (retP cfg.P Try.f65) [] code_r05_note (initSt Try.f65 [(x0, .val), (x1, .val)] [])
theorem eq_r05_note (R : Orc) (x0 : DV) (x1 : DV) : P_r05_note R x0 x1 =
  (og (isAggN 3 x0) <|
  ob (R.p F_r03_None [(.agg [(proj 0 x0), (proj 1 x0), (proj 2 x0)])]) fun d1 =>
  oif d1
   (some x1)
   (ob (R.p F_r03_Right [(.agg [(proj 0 x0), (proj 1 x0), (proj 2 x0)])]) fun d2 =>
   ogd d2
    (ob (R.p F_r03_Without [(.agg [(proj 0 x0), (proj 1 x0), (proj 2 x0)]), (.int .i64 6)]) fun d3 =>
    some d3)
    (some (.bool false))
    none)) := evP_of [] (by kernel_rfl)
theorem fix_r05_note (x0 : DV) (x1 : DV) : (run cfg).p F_r05_note [x0, x1] = P_r05_note (run cfg) x0 x1 :=
  (fix_pure (C := cfg) (f := F_r05_note) (fn := Try.f65) (c := code_r05_note) (by kernel_rfl) Try.func65 (by kernel_rfl)).trans (by kernel_rfl)
theorem call_r05_note (x0 : DV) (x1 : DV) {d : DV} (h : P_r05_note (run cfg) x0 x1 = some d) : (run cfg).p F_r05_note [x0, x1] = some d := (fix_r05_note x0 x1).trans h

noncomputable def code_r01_Name : Code := Try.f66.body.getD .skip
noncomputable def P_r01_Name (R : Orc) (x0 : DV) : Option DV := evP cfg R fl_r01_Name (retP cfg.P Try.f66) [] code_r01_Name (initSt Try.f66 [(x0, .val)] [])
noncomputable def P_r01_Name_4h (R : Orc) (t0 : DV) (t3 : DV) : Option DV := headP cfg R fl_r01_Name (retP cfg.P Try.f66) [true, true, false, true, false] code_r01_Name ⟨spread .undef 32 0 [(0, t0), (3, t3)], spread .val 32 0 [], spread none 32 0 [], []⟩
theorem eq_r01_Name (R : Orc) (x0 : DV) : P_r01_Name R x0 =
  (ob (dLenS x0) fun d1 =>
  ob (dBin .lss d1 (.int .i64 1)) fun d2 =>
  ogd d2
   (some (.bool false))
   (ob (dLenS x0) fun d3 =>
   ob (dBin .gtr d3 (.int .i64 32)) fun d4 =>
   ogd d4
    (some (.bool false))
    (ob (dStrIdx x0 (.int .i64 0)) fun d5 =>
    ob (R.p F_r01_lower [d5]) fun d6 =>
    ob (dUn .not d6) fun d7 =>
    oif d7
     (some (.bool false))
     (P_r01_Name_4h R x0 (.int .i64 0)))
    none)
   none) := evP_of [] (by kernel_rfl)
theorem eq_r01_Name_4h (R : Orc) (t0 : DV) (t3 : DV) : P_r01_Name_4h R t0 t3 =
  (ob (dLenS t0) fun d1 =>
  ob (dBin .lss t3 d1) fun d2 =>
  oif d2
   (ob (dStrIdx t0 t3) fun d3 =>
   ob (R.p F_r01_part [d3]) fun d4 =>
   ob (dUn .not d4) fun d5 =>
   oif d5
    (some (.bool false))
    (ob (dBin .add t3 (.int .i64 1)) fun d6 =>
    P_r01_Name_4h R t0 d6))
   (ob (R.p F_r01_Key [t0]) fun d7 =>
   ob (dUn .not d7) fun d8 =>
   some d8)) := headP_of [] (by kernel_rfl)
theorem fix_r01_Name (x0 : DV) : (run cfg).p F_r01_Name [x0] = P_r01_Name (run cfg) x0 :=
  (fix_pure (C := cfg) (f := F_r01_Name) (fn := Try.f66) (c := code_r01_Name) (by kernel_rfl) Try.func66 (by kernel_rfl)).trans (by kernel_rfl)
theorem call_r01_Name (x0 : DV) {d : DV} (h : P_r01_Name (run cfg) x0 = some d) : (run cfg).p F_r01_Name [x0] = some d := (fix_r01_Name x0).trans h

noncomputable def code_tree_scope_with : Code := Try.f67.body.getD .skip
noncomputable def P_tree_scope_with (R : Orc) (x0 : Nat) (x1 : DV) (x2 : DV) (sg : List SObj) : Option (List DV × List SObj) := evP cfg R fl_tree_scope_with (retR cfg.P Try.f67 sig_tree_scope_with) [] code_tree_scope_with (initSt Try.f67 [(.undef, (.ptr x0 0)), (x1, .val), (x2, .val)] sg)
noncomputable def P_tree_scope_with_2h (R : Orc) (t0i : Nat) (t2 : DV) (t10 : DV) (t11 : DV) (t12 : DV) (b4 : DV) (sg : List SObj) : Option (List DV × List SObj) := headP cfg R fl_tree_scope_with (retR cfg.P Try.f67 sig_tree_scope_with) [true, false, true, false] code_tree_scope_with ⟨spread .undef 41 0 [(2, t2), (10, t10), (11, t11), (12, t12)], spread .val 41 0 [(0, (.ptr t0i 0)), (4, (.loc 4 0))], spread none 41 0 [(4, some [((proj 0 b4), .val), ((proj 1 b4), .val), ((proj 2 b4), .val), ((proj 3 b4), .val), ((proj 4 b4), .val), ((proj 5 b4), .val), ((proj 6 b4), .val), ((proj 7 b4), .val), ((proj 8 b4), .val), ((proj 9 b4), .val), ((proj 10 b4), .val), ((proj 11 b4), .val), ((proj 12 b4), .val), ((proj 13 b4), .val), ((proj 14 b4), .val), ((proj 15 b4), .val)])], sg⟩
noncomputable def P_tree_scope_with_8h (R : Orc) (t0i : Nat) (t27 : DV) (t28 : DV) (t29 : DV) (sg : List SObj) : Option (List DV × List SObj) := headP cfg R fl_tree_scope_with (retR cfg.P Try.f67 sig_tree_scope_with) [true, true, true, true, false] code_tree_scope_with ⟨spread .undef 41 0 [(27, t27), (28, t28), (29, t29)], spread .val 41 0 [(0, (.ptr t0i 0))], spread none 41 0 [], sg⟩
theorem eq_tree_scope_with (R : Orc) (x0 : Nat) (x1 : DV) (x2 : DV) (sg : List SObj) : P_tree_scope_with R x0 x1 x2 sg =
  (og (isAggN 16 x1) <|
  ob (dLen x2) fun d1 =>
  P_tree_scope_with_2h R x0 x2 x2 d1 (.int .i64 0) x1 sg) := evP_of [] (by kernel_rfl)
theorem eq_tree_scope_with_2h (R : Orc) (t0i : Nat) (t2 : DV) (t10 : DV) (t11 : DV) (t12 : DV) (b4 : DV) (sg : List SObj) : P_tree_scope_with_2h R t0i t2 t10 t11 t12 b4 sg =
  (ob (dBin .lss t12 t11) fun d1 =>
  oif d1
   (ob (dIdx 1 t10 t12) fun d2 =>
   og (isLeaf d2) <|
   ob (sgBox sg t0i) fun c3 =>
   ob (cellMap c3 0) fun i4 =>
   og (isKey true d2 && true) <|
   ob (sgMap sg i4) fun m5 =>
   og (m5.1 == true) <|
   ob (dBin .add ((mGet m5.2 d2).getD (.int .i64 0)) (.int .i64 1)) fun d6 =>
   og (isKey true d2 && true && true) <|
   ob (sgMap sg i4) fun m7 =>
   og (m7.1 == true) <|
   ob (dBin .add t12 (.int .i64 1)) fun d8 =>
   P_tree_scope_with_2h R t0i t2 t10 t11 d8 b4 (sg.set i4 (.map true (mSet m7.2 d2 d6))))
   (ob (R.r F_tree_scope_look [(.undef, (.ptr t0i 0)), ((.agg [(proj 0 b4), (proj 1 b4), (proj 2 b4), (proj 3 b4), (proj 4 b4), (proj 5 b4), (proj 6 b4), (proj 7 b4), (proj 8 b4), (proj 9 b4), (proj 10 b4), (proj 11 b4), (proj 12 b4), (proj 13 b4), (proj 14 b4), (proj 15 b4)]), .val)] sg) fun q9 =>
   ob (dLen t2) fun d10 =>
   P_tree_scope_with_8h R t0i t2 d10 (.int .i64 0) q9.2)) := headP_of [] (by kernel_rfl)
theorem eq_tree_scope_with_8h (R : Orc) (t0i : Nat) (t27 : DV) (t28 : DV) (t29 : DV) (sg : List SObj) : P_tree_scope_with_8h R t0i t27 t28 t29 sg =
  (ob (dBin .lss t29 t28) fun d1 =>
  oif d1
   (ob (dIdx 1 t27 t29) fun d2 =>
   og (isLeaf d2) <|
   ob (sgBox sg t0i) fun c3 =>
   ob (cellMap c3 0) fun i4 =>
   og (isKey true d2 && true) <|
   ob (sgMap sg i4) fun m5 =>
   og (m5.1 == true) <|
   ob (dBin .sub ((mGet m5.2 d2).getD (.int .i64 0)) (.int .i64 1)) fun d6 =>
   og (isKey true d2 && true && true) <|
   ob (sgMap sg i4) fun m7 =>
   og (m7.1 == true) <|
   ob (dBin .add t29 (.int .i64 1)) fun d8 =>
   P_tree_scope_with_8h R t0i t27 t28 d8 (sg.set i4 (.map true (mSet m7.2 d2 d6))))
   (some ([], sg))) := headP_of [] (by kernel_rfl)
theorem fix_tree_scope_with (x0 : Nat) (x1 : DV) (x2 : DV) (sg : List SObj) : (run cfg).r F_tree_scope_with [(.undef, (.ptr x0 0)), (x1, .val), (x2, .val)] sg = P_tree_scope_with (run cfg) x0 x1 x2 sg :=
  (fix_raw (C := cfg) (f := F_tree_scope_with) (s := sig_tree_scope_with) (fn := Try.f67) (c := code_tree_scope_with) (by kernel_rfl) Try.func67 (by kernel_rfl)).trans (by kernel_rfl)
theorem call_tree_scope_with (x0 : Nat) (x1 : DV) (x2 : DV) (sg : List SObj) {q : List DV × List SObj} (h : P_tree_scope_with (run cfg) x0 x1 x2 sg = some q) : (run cfg).r F_tree_scope_with [(.undef, (.ptr x0 0)), (x1, .val), (x2, .val)] sg = some q := (fix_tree_scope_with x0 x1 x2 sg).trans h

end Go.Su

/-
  Equations of the program's functions: by program.
-/
namespace Go.Su
open Go.Proofs
set_option linter.unusedVariables false

noncomputable def code_tree_shapeOf : Code := Try.f72.body.getD .skip
noncomputable def P_tree_shapeOf (R : Orc) (x0 : DV) : Option DV := evP cfg R fl_tree_shapeOf (retP cfg.P Try.f72) [] code_tree_shapeOf (initSt Try.f72 [(x0, .val)] [])
set_option maxRecDepth 100000 in
theorem eq_tree_shapeOf (R : Orc) (x0 : DV) : P_tree_shapeOf R x0 =
  (og (isAggN 16 x0) <|
  ob (dBin .eql (proj 0 x0) (.int .i64 1)) fun d1 =>
  oif d1
   (some (.tup [(.agg [(.bool true), (.bool false), (.bool false), (.bool false), (.bool false), (.bool false), (.bool false), (.bool false), (.int .i64 0)]), (.bool true)]))
   (ob (dBin .eql (proj 0 x0) (.int .i64 2)) fun d2 =>
   oif d2
    (some (.tup [(.agg [(.bool false), (.bool false), (.bool true), (.bool false), (.bool false), (.bool false), (.bool false), (.bool false), (.int .i64 0)]), (.bool true)]))
    (ob (dBin .eql (proj 0 x0) (.int .i64 3)) fun d3 =>
    oif d3
     (some (.tup [(.agg [(.bool false), (.bool false), (.bool true), (.bool false), (.bool false), (.bool false), (.bool false), (.bool false), (.int .i64 0)]), (.bool true)]))
     (ob (dBin .eql (proj 0 x0) (.int .i64 4)) fun d4 =>
     oif d4
      (some (.tup [(.agg [(.bool false), (.bool false), (.bool false), (.bool true), (.bool false), (.bool false), (.bool false), (.bool false), (.int .i64 0)]), (.bool true)]))
      (ob (dBin .eql (proj 0 x0) (.int .i64 5)) fun d5 =>
      oif d5
       (some (.tup [(.agg [(.bool false), (.bool false), (.bool false), (.bool false), (.bool false), (.bool false), (.bool false), (.bool false), (.int .i64 0)]), (.bool true)]))
       (ob (dBin .eql (proj 0 x0) (.int .i64 7)) fun d6 =>
       oif d6
        (some (.tup [(.agg [(.bool false), (.bool false), (.bool false), (.bool false), (.bool false), (.bool false), (.bool false), (.bool false), (.int .i64 0)]), (.bool true)]))
        (ob (dBin .eql (proj 0 x0) (.int .i64 6)) fun d7 =>
        oif d7
         (some (.tup [(.agg [(.bool false), (.bool false), (.bool false), (.bool false), (.bool false), (.bool false), (.bool false), (.bool false), (.int .i64 2)]), (.bool true)]))
         (ob (dBin .eql (proj 0 x0) (.int .i64 8)) fun d8 =>
         oif d8
          (some (.tup [(.agg [(.bool false), (.bool false), (.bool false), (.bool false), (.bool false), (.bool false), (.bool false), (.bool false), (.int .i64 2)]), (.bool true)]))
          (ob (dBin .eql (proj 0 x0) (.int .i64 10)) fun d9 =>
          oif d9
           (some (.tup [(.agg [(.bool false), (.bool false), (.bool false), (.bool false), (.bool false), (.bool false), (.bool false), (.bool false), (.int .i64 2)]), (.bool true)]))
           (ob (dBin .eql (proj 0 x0) (.int .i64 9)) fun d10 =>
           oif d10
            (some (.tup [(.agg [(.bool true), (.bool false), (.bool false), (.bool false), (.bool false), (.bool true), (.bool false), (.bool false), (.int .i64 1)]), (.bool true)]))
            (ob (dBin .eql (proj 0 x0) (.int .i64 11)) fun d11 =>
            oif d11
             (some (.tup [(.agg [(.bool true), (.bool false), (.bool false), (.bool false), (.bool false), (.bool true), (.bool false), (.bool false), (.int .i64 2)]), (.bool true)]))
             (ob (dBin .eql (proj 0 x0) (.int .i64 12)) fun d12 =>
             oif d12
              (some (.tup [(.agg [(.bool true), (.bool true), (.bool false), (.bool false), (.bool false), (.bool true), (.bool true), (.bool false), (.int .i64 2)]), (.bool true)]))
              (ob (dBin .eql (proj 0 x0) (.int .i64 13)) fun d13 =>
              oif d13
               (some (.tup [(.agg [(.bool false), (.bool false), (.bool false), (.bool false), (.bool false), (.bool false), (.bool false), (.bool false), (.int .i64 3)]), (.bool true)]))
               (ob (dBin .eql (proj 0 x0) (.int .i64 14)) fun d14 =>
               oif d14
                (ob (dLen (proj 14 x0)) fun d15 =>
                ob (dBin .add d15 (.int .i64 1)) fun d16 =>
                og (isCell d16) <|
                ob (dLen (proj 14 x0)) fun d17 =>
                ob (dBin .gtr d17 (.int .i64 0)) fun d18 =>
                some (.tup [(.agg [(.bool false), (.bool false), (.bool false), (.bool false), (.bool false), (.bool false), (.bool false), (.bool false), d16]), d18]))
                (ob (dBin .eql (proj 0 x0) (.int .i64 15)) fun d19 =>
                oif d19
                 (some (.tup [(.agg [(.bool false), (.bool false), (.bool false), (.bool false), (.bool false), (.bool true), (.bool false), (.bool true), (.int .i64 1)]), (.bool true)]))
                 (ob (dBin .eql (proj 0 x0) (.int .i64 16)) fun d20 =>
                 oif d20
                  (some (.tup [(.agg [(.bool false), (.bool false), (.bool false), (.bool false), (.bool true), (.bool false), (.bool false), (.bool false), (.int .i64 2)]), (.bool true)]))
                  (some (.tup [(.agg [(.bool false), (.bool false), (.bool false), (.bool false), (.bool false), (.bool false), (.bool false), (.bool false), (.int .i64 0)]), (.bool false)])))))))))))))))))) := evP_of [] (by kernel_rfl)
theorem fix_tree_shapeOf (x0 : DV) : (run cfg).p F_tree_shapeOf [x0] = P_tree_shapeOf (run cfg) x0 :=
  (fix_pure (C := cfg) (f := F_tree_shapeOf) (fn := Try.f72) (c := code_tree_shapeOf) (by kernel_rfl) Try.func72 (by kernel_rfl)).trans (by kernel_rfl)
theorem call_tree_shapeOf (x0 : DV) {d : DV} (h : P_tree_shapeOf (run cfg) x0 = some d) : (run cfg).p F_tree_shapeOf [x0] = some d := (fix_tree_shapeOf x0).trans h

noncomputable def code_word_Key : Code := Try.f74.body.getD .skip
noncomputable def P_word_Key (R : Orc) (x0 : DV) : Option DV := evP cfg R fl_word_Key (retP cfg.P Try.f74) [] code_word_Key (initSt Try.f74 [(x0, .val)] [])
theorem eq_word_Key (R : Orc) (x0 : DV) : P_word_Key R x0 =
  (ob (dBin .eql x0 (.str ⟨#[108, 101, 116]⟩)) fun d1 =>
  oif d1
   (some (.bool true))
   (ob (dBin .eql x0 (.str ⟨#[114, 101, 99]⟩)) fun d2 =>
   oif d2
    (some (.bool true))
    (ob (dBin .eql x0 (.str ⟨#[105, 110]⟩)) fun d3 =>
    oif d3
     (some (.bool true))
     (ob (dBin .eql x0 (.str ⟨#[102, 117, 110]⟩)) fun d4 =>
     oif d4
      (some (.bool true))
      (ob (dBin .eql x0 (.str ⟨#[105, 102]⟩)) fun d5 =>
      oif d5
       (some (.bool true))
       (ob (dBin .eql x0 (.str ⟨#[116, 104, 101, 110]⟩)) fun d6 =>
       oif d6
        (some (.bool true))
        (ob (dBin .eql x0 (.str ⟨#[101, 108, 115, 101]⟩)) fun d7 =>
        oif d7
         (some (.bool true))
         (ob (dBin .eql x0 (.str ⟨#[109, 97, 116, 99, 104]⟩)) fun d8 =>
         oif d8
          (some (.bool true))
          (ob (dBin .eql x0 (.str ⟨#[119, 105, 116, 104]⟩)) fun d9 =>
          oif d9
           (some (.bool true))
           (ob (dBin .eql x0 (.str ⟨#[101, 110, 100]⟩)) fun d10 =>
           oif d10
            (some (.bool true))
            (ob (dBin .eql x0 (.str ⟨#[116, 114, 117, 101]⟩)) fun d11 =>
            oif d11
             (some (.bool true))
             (ob (dBin .eql x0 (.str ⟨#[102, 97, 108, 115, 101]⟩)) fun d12 =>
             oif d12
              (some (.bool true))
              (ob (dBin .eql x0 (.str ⟨#[105, 110, 116]⟩)) fun d13 =>
              oif d13
               (some (.bool true))
               (ob (dBin .eql x0 (.str ⟨#[98, 111, 111, 108]⟩)) fun d14 =>
               oif d14
                (some (.bool true))
                (ob (dBin .eql x0 (.str ⟨#[115, 116, 114, 105, 110, 103]⟩)) fun d15 =>
                oif d15
                 (some (.bool true))
                 (ob (dBin .eql x0 (.str ⟨#[117, 110, 105, 116]⟩)) fun d16 =>
                 oif d16
                  (some (.bool true))
                  (ob (dBin .eql x0 (.str ⟨#[108, 105, 115, 116]⟩)) fun d17 =>
                  oif d17
                   (some (.bool true))
                   (some (.bool false))))))))))))))))))) := evP_of [] (by kernel_rfl)
theorem fix_word_Key (x0 : DV) : (run cfg).p F_word_Key [x0] = P_word_Key (run cfg) x0 :=
  (fix_pure (C := cfg) (f := F_word_Key) (fn := Try.f74) (c := code_word_Key) (by kernel_rfl) Try.func74 (by kernel_rfl)).trans (by kernel_rfl)
theorem call_word_Key (x0 : DV) {d : DV} (h : P_word_Key (run cfg) x0 = some d) : (run cfg).p F_word_Key [x0] = some d := (fix_word_Key x0).trans h

noncomputable def code_word_inner : Code := Try.f75.body.getD .skip
noncomputable def P_word_inner (R : Orc) (x0 : DV) : Option DV := evP cfg R fl_word_inner (retP cfg.P Try.f75) [] code_word_inner (initSt Try.f75 [(x0, .val)] [])
set_option maxRecDepth 100000 in
theorem eq_word_inner (R : Orc) (x0 : DV) : P_word_inner R x0 =
  (ob (dBin .geq x0 (.int .u8 97)) fun d1 =>
  ogd d1
   (ob (dBin .leq x0 (.int .u8 122)) fun d2 =>
   ogd d2
    (some (.bool true))
    (ob (dBin .geq x0 (.int .u8 65)) fun d3 =>
    ogd d3
     (ob (dBin .leq x0 (.int .u8 90)) fun d4 =>
     ogd d4
      (some (.bool true))
      (ob (dBin .geq x0 (.int .u8 48)) fun d5 =>
      ogd d5
       (ob (dBin .leq x0 (.int .u8 57)) fun d6 =>
       ogd d6
        (some (.bool true))
        (ob (dBin .eql x0 (.int .u8 95)) fun d7 =>
        ogd d7
         (some (.bool true))
         (ob (dBin .eql x0 (.int .u8 39)) fun d8 =>
         some d8)
         none)
        none)
       (ob (dBin .eql x0 (.int .u8 95)) fun d9 =>
       ogd d9
        (some (.bool true))
        (ob (dBin .eql x0 (.int .u8 39)) fun d10 =>
        some d10)
        none)
       none)
      none)
     (ob (dBin .geq x0 (.int .u8 48)) fun d11 =>
     ogd d11
      (ob (dBin .leq x0 (.int .u8 57)) fun d12 =>
      ogd d12
       (some (.bool true))
       (ob (dBin .eql x0 (.int .u8 95)) fun d13 =>
       ogd d13
        (some (.bool true))
        (ob (dBin .eql x0 (.int .u8 39)) fun d14 =>
        some d14)
        none)
       none)
      (ob (dBin .eql x0 (.int .u8 95)) fun d15 =>
      ogd d15
       (some (.bool true))
       (ob (dBin .eql x0 (.int .u8 39)) fun d16 =>
       some d16)
       none)
      none)
     none)
    none)
   (ob (dBin .geq x0 (.int .u8 65)) fun d17 =>
   ogd d17
    (ob (dBin .leq x0 (.int .u8 90)) fun d18 =>
    ogd d18
     (some (.bool true))
     (ob (dBin .geq x0 (.int .u8 48)) fun d19 =>
     ogd d19
      (ob (dBin .leq x0 (.int .u8 57)) fun d20 =>
      ogd d20
       (some (.bool true))
       (ob (dBin .eql x0 (.int .u8 95)) fun d21 =>
       ogd d21
        (some (.bool true))
        (ob (dBin .eql x0 (.int .u8 39)) fun d22 =>
        some d22)
        none)
       none)
      (ob (dBin .eql x0 (.int .u8 95)) fun d23 =>
      ogd d23
       (some (.bool true))
       (ob (dBin .eql x0 (.int .u8 39)) fun d24 =>
       some d24)
       none)
      none)
     none)
    (ob (dBin .geq x0 (.int .u8 48)) fun d25 =>
    ogd d25
     (ob (dBin .leq x0 (.int .u8 57)) fun d26 =>
     ogd d26
      (some (.bool true))
      (ob (dBin .eql x0 (.int .u8 95)) fun d27 =>
      ogd d27
       (some (.bool true))
       (ob (dBin .eql x0 (.int .u8 39)) fun d28 =>
       some d28)
       none)
      none)
     (ob (dBin .eql x0 (.int .u8 95)) fun d29 =>
     ogd d29
      (some (.bool true))
      (ob (dBin .eql x0 (.int .u8 39)) fun d30 =>
      some d30)
      none)
     none)
    none)
   none) := evP_of [] (by kernel_rfl)
theorem fix_word_inner (x0 : DV) : (run cfg).p F_word_inner [x0] = P_word_inner (run cfg) x0 :=
  (fix_pure (C := cfg) (f := F_word_inner) (fn := Try.f75) (c := code_word_inner) (by kernel_rfl) Try.func75 (by kernel_rfl)).trans (by kernel_rfl)
theorem call_word_inner (x0 : DV) {d : DV} (h : P_word_inner (run cfg) x0 = some d) : (run cfg).p F_word_inner [x0] = some d := (fix_word_inner x0).trans h

noncomputable def code_typ_Check : Code := Try.f76.body.getD .skip
noncomputable def P_typ_Check (R : Orc) (x0 : DV) : Option DV := evP cfg R fl_typ_Check (retP cfg.P Try.f76) [] code_typ_Check (initSt Try.f76 [(x0, .val)] [])
theorem eq_typ_Check (R : Orc) (x0 : DV) : P_typ_Check R x0 =
  (og (isAggN 3 x0) <|
  ob (R.p F_typ_right [(.agg [(proj 0 x0), (proj 1 x0), (proj 2 x0)])]) fun d1 =>
  ob (dUn .not d1) fun d2 =>
  oif d2
   (some (.int .i64 1))
   (some (.int .i64 0))) := evP_of [] (by kernel_rfl)
theorem fix_typ_Check (x0 : DV) : (run cfg).p F_typ_Check [x0] = P_typ_Check (run cfg) x0 :=
  (fix_pure (C := cfg) (f := F_typ_Check) (fn := Try.f76) (c := code_typ_Check) (by kernel_rfl) Try.func76 (by kernel_rfl)).trans (by kernel_rfl)
theorem call_typ_Check (x0 : DV) {d : DV} (h : P_typ_Check (run cfg) x0 = some d) : (run cfg).p F_typ_Check [x0] = some d := (fix_typ_Check x0).trans h

noncomputable def code_typ_Closed : Code := Try.f77.body.getD .skip
noncomputable def P_typ_Closed (R : Orc) (x0 : DV) : Option DV := evP cfg R fl_typ_Closed (retP cfg.P Try.f77) [] code_typ_Closed (initSt Try.f77 [(x0, .val)] [])
theorem eq_typ_Closed (R : Orc) (x0 : DV) : P_typ_Closed R x0 =
  (og (isAggN 3 x0) <|
  ob (R.p F_typ_without [(.agg [(proj 0 x0), (proj 1 x0), (proj 2 x0)]), (.int .i64 6)]) fun d1 =>
  some d1) := evP_of [] (by kernel_rfl)
theorem fix_typ_Closed (x0 : DV) : (run cfg).p F_typ_Closed [x0] = P_typ_Closed (run cfg) x0 :=
  (fix_pure (C := cfg) (f := F_typ_Closed) (fn := Try.f77) (c := code_typ_Closed) (by kernel_rfl) Try.func77 (by kernel_rfl)).trans (by kernel_rfl)
theorem call_typ_Closed (x0 : DV) {d : DV} (h : P_typ_Closed (run cfg) x0 = some d) : (run cfg).p F_typ_Closed [x0] = some d := (fix_typ_Closed x0).trans h

noncomputable def code_r03_None : Code := Try.f78.body.getD .skip
noncomputable def P_r03_None (R : Orc) (x0 : DV) : Option DV := evP cfg R fl_r03_None (retP cfg.P Try.f78) [] code_r03_None (initSt Try.f78 [(x0, .val)] [])
theorem eq_r03_None (R : Orc) (x0 : DV) : P_r03_None R x0 =
  (og (isAggN 3 x0) <|
  ob (dBin .eql (proj 0 x0) (.int .i64 0)) fun d1 =>
  ogd d1
   (ob (dBin .eql (proj 1 x0) (.int .i64 0)) fun d2 =>
   ogd d2
    (ob (dLen (proj 2 x0)) fun d3 =>
    ob (dBin .eql d3 (.int .i64 0)) fun d4 =>
    some d4)
    (some (.bool false))
    none)
   (some (.bool false))
   none) := evP_of [] (by kernel_rfl)
theorem fix_r03_None (x0 : DV) : (run cfg).p F_r03_None [x0] = P_r03_None (run cfg) x0 :=
  (fix_pure (C := cfg) (f := F_r03_None) (fn := Try.f78) (c := code_r03_None) (by kernel_rfl) Try.func78 (by kernel_rfl)).trans (by kernel_rfl)
theorem call_r03_None (x0 : DV) {d : DV} (h : P_r03_None (run cfg) x0 = some d) : (run cfg).p F_r03_None [x0] = some d := (fix_r03_None x0).trans h

noncomputable def code_r03_Right : Code := Try.f79.body.getD .skip
noncomputable def P_r03_Right (R : Orc) (x0 : DV) : Option DV := evP cfg R fl_r03_Right (retP cfg.P Try.f79) [] code_r03_Right (initSt Try.f79 [(x0, .val)] [])
noncomputable def P_r03_Right_4h (R : Orc) (t3 : DV) (b1 : DV) : Option DV := headP cfg R fl_r03_Right (retP cfg.P Try.f79) [true, true, false, true, false] code_r03_Right ⟨spread .undef 45 0 [(3, t3)], spread .val 45 0 [(1, (.loc 1 0))], spread none 45 0 [(1, some [((proj 0 b1), .val), ((proj 1 b1), .val), ((proj 2 b1), .val)])], []⟩
set_option maxRecDepth 100000 in
theorem eq_r03_Right (R : Orc) (x0 : DV) : P_r03_Right R x0 =
  (og (isAggN 3 x0) <|
  ob (R.p F_r03_Kids [(proj 0 x0)]) fun d1 =>
  ob (dLen (proj 2 x0)) fun d2 =>
  ob (dBin .neq d1 d2) fun d3 =>
  ogd d3
   (some (.bool false))
   (ob (dBin .lss (proj 1 x0) (.int .i64 0)) fun d4 =>
   ogd d4
    (some (.bool false))
    (ob (dBin .gtr (proj 1 x0) (.int .i64 1048576)) fun d5 =>
    ogd d5
     (some (.bool false))
     (ob (dBin .neq (proj 0 x0) (.int .i64 6)) fun d6 =>
     ogd d6
      (ob (dBin .neq (proj 1 x0) (.int .i64 0)) fun d7 =>
      oif d7
       (some (.bool false))
       (P_r03_Right_4h R (.int .i64 0) x0))
      (P_r03_Right_4h R (.int .i64 0) x0)
      none)
     none)
    none)
   none) := evP_of [] (by kernel_rfl)
theorem eq_r03_Right_4h (R : Orc) (t3 : DV) (b1 : DV) : P_r03_Right_4h R t3 b1 =
  (ob (dLen (proj 2 b1)) fun d1 =>
  ob (dBin .lss t3 d1) fun d2 =>
  oif d2
   (ob (dIdx 3 (proj 2 b1) t3) fun d3 =>
   ob (R.p F_r03_Right [(.agg [(proj 0 d3), (proj 1 d3), (proj 2 d3)])]) fun d4 =>
   ob (dUn .not d4) fun d5 =>
   oif d5
    (some (.bool false))
    (ob (dBin .add t3 (.int .i64 1)) fun d6 =>
    P_r03_Right_4h R d6 b1))
   (some (.bool true))) := headP_of [] (by kernel_rfl)
theorem fix_r03_Right (x0 : DV) : (run cfg).p F_r03_Right [x0] = P_r03_Right (run cfg) x0 :=
  (fix_pure (C := cfg) (f := F_r03_Right) (fn := Try.f79) (c := code_r03_Right) (by kernel_rfl) Try.func79 (by kernel_rfl)).trans (by kernel_rfl)
theorem call_r03_Right (x0 : DV) {d : DV} (h : P_r03_Right (run cfg) x0 = some d) : (run cfg).p F_r03_Right [x0] = some d := (fix_r03_Right x0).trans h

noncomputable def code_r03_Without : Code := Try.f80.body.getD .skip
noncomputable def P_r03_Without (R : Orc) (x0 : DV) (x1 : DV) : Option DV := evP cfg R fl_r03_Without (retP cfg.P Try.f80) [] code_r03_Without (initSt Try.f80 [(x0, .val), (x1, .val)] [])
noncomputable def P_r03_Without_4h (R : Orc) (t1 : DV) (t5 : DV) (b2 : DV) : Option DV := headP cfg R fl_r03_Without (retP cfg.P Try.f80) [true, true, false, true, false] code_r03_Without ⟨spread .undef 25 0 [(1, t1), (5, t5)], spread .val 25 0 [(2, (.loc 2 0))], spread none 25 0 [(2, some [((proj 0 b2), .val), ((proj 1 b2), .val), ((proj 2 b2), .val)])], []⟩
theorem eq_r03_Without (R : Orc) (x0 : DV) (x1 : DV) : P_r03_Without R x0 x1 =
  (og (isAggN 3 x0) <|
  ob (dBin .eql (proj 0 x0) x1) fun d1 =>
  oif d1
   (some (.bool false))
   (P_r03_Without_4h R x1 (.int .i64 0) x0)) := evP_of [] (by kernel_rfl)
theorem eq_r03_Without_4h (R : Orc) (t1 : DV) (t5 : DV) (b2 : DV) : P_r03_Without_4h R t1 t5 b2 =
  (ob (dLen (proj 2 b2)) fun d1 =>
  ob (dBin .lss t5 d1) fun d2 =>
  oif d2
   (ob (dIdx 3 (proj 2 b2) t5) fun d3 =>
   ob (R.p F_r03_Without [(.agg [(proj 0 d3), (proj 1 d3), (proj 2 d3)]), t1]) fun d4 =>
   ob (dUn .not d4) fun d5 =>
   oif d5
    (some (.bool false))
    (ob (dBin .add t5 (.int .i64 1)) fun d6 =>
    P_r03_Without_4h R t1 d6 b2))
   (some (.bool true))) := headP_of [] (by kernel_rfl)
theorem fix_r03_Without (x0 : DV) (x1 : DV) : (run cfg).p F_r03_Without [x0, x1] = P_r03_Without (run cfg) x0 x1 :=
  (fix_pure (C := cfg) (f := F_r03_Without) (fn := Try.f80) (c := code_r03_Without) (by kernel_rfl) Try.func80 (by kernel_rfl)).trans (by kernel_rfl)
theorem call_r03_Without (x0 : DV) (x1 : DV) {d : DV} (h : P_r03_Without (run cfg) x0 x1 = some d) : (run cfg).p F_r03_Without [x0, x1] = some d := (fix_r03_Without x0 x1).trans h

noncomputable def code_r01_lower : Code := Try.f81.body.getD .skip
noncomputable def P_r01_lower (R : Orc) (x0 : DV) : Option DV := evP cfg R fl_r01_lower (retP cfg.P Try.f81) [] code_r01_lower (initSt Try.f81 [(x0, .val)] [])
theorem eq_r01_lower (R : Orc) (x0 : DV) : P_r01_lower R x0 =
  (ob (dBin .geq x0 (.int .u8 97)) fun d1 =>
  ogd d1
   (ob (dBin .leq x0 (.int .u8 122)) fun d2 =>
   some d2)
   (some (.bool false))
   none) := evP_of [] (by kernel_rfl)
theorem fix_r01_lower (x0 : DV) : (run cfg).p F_r01_lower [x0] = P_r01_lower (run cfg) x0 :=
  (fix_pure (C := cfg) (f := F_r01_lower) (fn := Try.f81) (c := code_r01_lower) (by kernel_rfl) Try.func81 (by kernel_rfl)).trans (by kernel_rfl)
theorem call_r01_lower (x0 : DV) {d : DV} (h : P_r01_lower (run cfg) x0 = some d) : (run cfg).p F_r01_lower [x0] = some d := (fix_r01_lower x0).trans h

noncomputable def code_r01_part : Code := Try.f82.body.getD .skip
noncomputable def P_r01_part (R : Orc) (x0 : DV) : Option DV := evP cfg R fl_r01_part (retP cfg.P Try.f82) [] code_r01_part (initSt Try.f82 [(x0, .val)] [])
set_option maxRecDepth 100000 in
theorem eq_r01_part (R : Orc) (x0 : DV) : P_r01_part R x0 =
  (ob (R.p F_r01_lower [x0]) fun d1 =>
  ogd d1
   (some (.bool true))
   (ob (R.p F_r01_digit [x0]) fun d2 =>
   ogd d2
    (some (.bool true))
    (ob (dBin .geq x0 (.int .u8 65)) fun d3 =>
    ogd d3
     (ob (dBin .leq x0 (.int .u8 90)) fun d4 =>
     ogd d4
      (some (.bool true))
      (ob (dBin .eql x0 (.int .u8 95)) fun d5 =>
      ogd d5
       (some (.bool true))
       (ob (dBin .eql x0 (.int .u8 39)) fun d6 =>
       some d6)
       none)
      none)
     (ob (dBin .eql x0 (.int .u8 95)) fun d7 =>
     ogd d7
      (some (.bool true))
      (ob (dBin .eql x0 (.int .u8 39)) fun d8 =>
      some d8)
      none)
     none)
    none)
   none) := evP_of [] (by kernel_rfl)
theorem fix_r01_part (x0 : DV) : (run cfg).p F_r01_part [x0] = P_r01_part (run cfg) x0 :=
  (fix_pure (C := cfg) (f := F_r01_part) (fn := Try.f82) (c := code_r01_part) (by kernel_rfl) Try.func82 (by kernel_rfl)).trans (by kernel_rfl)
theorem call_r01_part (x0 : DV) {d : DV} (h : P_r01_part (run cfg) x0 = some d) : (run cfg).p F_r01_part [x0] = some d := (fix_r01_part x0).trans h

noncomputable def code_r01_Key : Code := Try.f83.body.getD .skip
noncomputable def P_r01_Key (R : Orc) (x0 : DV) : Option DV := evP cfg R fl_r01_Key (retP cfg.P Try.f83) [] code_r01_Key (initSt Try.f83 [(x0, .val)] [])
noncomputable def P_r01_Key_2h (R : Orc) (t0 : DV) (t3 : DV) : Option DV := headP cfg R fl_r01_Key (retP cfg.P Try.f83) [true, false, true, false] code_r01_Key ⟨spread .undef 40 0 [(0, t0), (3, t3)], spread .val 40 0 [], spread none 40 0 [], []⟩
noncomputable def P_r01_Key_8h (R : Orc) (t0 : DV) (t4 : DV) (t5 : DV) : Option DV := headP cfg R fl_r01_Key (retP cfg.P Try.f83) [true, true, true, false, true, false] code_r01_Key ⟨spread .undef 40 0 [(0, t0), (4, t4), (5, t5)], spread .val 40 0 [], spread none 40 0 [], []⟩
theorem eq_r01_Key (R : Orc) (x0 : DV) : P_r01_Key R x0 =
  (P_r01_Key_2h R x0 (.int .i64 0)) := evP_of [] (by kernel_rfl)
theorem eq_r01_Key_2h (R : Orc) (t0 : DV) (t3 : DV) : P_r01_Key_2h R t0 t3 =
  (ob (dLenS t0) fun d1 =>
  ob (dBin .lss t3 d1) fun d2 =>
  oif d2
   (ob (dStrIdx t0 t3) fun d3 =>
   ob (R.p F_r01_lower [d3]) fun d4 =>
   ob (dUn .not d4) fun d5 =>
   oif d5
    (some (.bool false))
    (ob (dBin .add t3 (.int .i64 1)) fun d6 =>
    P_r01_Key_2h R t0 d6))
   (ob (dBin .add (.str ⟨#[32]⟩) t0) fun d7 =>
   ob (dBin .add d7 (.str ⟨#[32]⟩)) fun d8 =>
   P_r01_Key_8h R t0 d8 (.int .i64 0))) := headP_of [] (by kernel_rfl)
theorem eq_r01_Key_8h (R : Orc) (t0 : DV) (t4 : DV) (t5 : DV) : P_r01_Key_8h R t0 t4 t5 =
  (ob (dLenS t4) fun d1 =>
  ob (dBin .add t5 d1) fun d2 =>
  ob (dBin .leq d2 (.int .i64 81)) fun d3 =>
  oif d3
   (ob (dLenS t0) fun d4 =>
   ob (dBin .gtr d4 (.int .i64 0)) fun d5 =>
   ogd d5
    (ob (dLenS t4) fun d6 =>
    ob (dBin .add t5 d6) fun d7 =>
    ob (dSliceS (.str ⟨#[32, 108, 101, 116, 32, 114, 101, 99, 32, 105, 110, 32, 102, 117, 110, 32, 105, 102, 32, 116, 104, 101, 110, 32, 101, 108, 115, 101, 32, 109, 97, 116, 99, 104, 32, 119, 105, 116, 104, 32, 101, 110, 100, 32, 116, 114, 117, 101, 32, 102, 97, 108, 115, 101, 32, 105, 110, 116, 32, 98, 111, 111, 108, 32, 115, 116, 114, 105, 110, 103, 32, 117, 110, 105, 116, 32, 108, 105, 115, 116, 32]⟩) (some t5) (some d7)) fun d8 =>
    ob (dBin .eql d8 t4) fun d9 =>
    oif d9
     (some (.bool true))
     (ob (dBin .add t5 (.int .i64 1)) fun d10 =>
     P_r01_Key_8h R t0 t4 d10))
    (ob (dBin .add t5 (.int .i64 1)) fun d11 =>
    P_r01_Key_8h R t0 t4 d11)
    none)
   (some (.bool false))) := headP_of [] (by kernel_rfl)
theorem fix_r01_Key (x0 : DV) : (run cfg).p F_r01_Key [x0] = P_r01_Key (run cfg) x0 :=
  (fix_pure (C := cfg) (f := F_r01_Key) (fn := Try.f83) (c := code_r01_Key) (by kernel_rfl) Try.func83 (by kernel_rfl)).trans (by kernel_rfl)
theorem call_r01_Key (x0 : DV) {d : DV} (h : P_r01_Key (run cfg) x0 = some d) : (run cfg).p F_r01_Key [x0] = some d := (fix_r01_Key x0).trans h

noncomputable def code_typ_right : Code := Try.f95.body.getD .skip
noncomputable def P_typ_right (R : Orc) (x0 : DV) : Option DV := evP cfg R fl_typ_right (retP cfg.P Try.f95) [] code_typ_right (initSt Try.f95 [(x0, .val)] [])
noncomputable def P_typ_right_9h (R : Orc) (t33 : DV) (t34 : DV) (t35 : DV) : Option DV := headP cfg R fl_typ_right (retP cfg.P Try.f95) [true, true, true, true, false, true, false] code_typ_right ⟨spread .undef 43 0 [(33, t33), (34, t34), (35, t35)], spread .val 43 0 [], spread none 43 0 [], []⟩
theorem eq_typ_right (R : Orc) (x0 : DV) : P_typ_right R x0 =
  (og (isAggN 3 x0) <|
  ob (R.p F_typ_arity [(proj 0 x0)]) fun d1 =>
  ob (dBin .lss d1 (.int .i64 0)) fun d2 =>
  ogd d2
   (some (.bool false))
   (ob (dLen (proj 2 x0)) fun d3 =>
   ob (dBin .neq d3 d1) fun d4 =>
   oif d4
    (some (.bool false))
    (ob (dBin .eql (proj 0 x0) (.int .i64 6)) fun d5 =>
    oif d5
     (ob (dBin .geq (proj 1 x0) (.int .i64 0)) fun d6 =>
     ogd d6
      (ob (dBin .leq (proj 1 x0) (.int .i64 1048576)) fun d7 =>
      some d7)
      (some (.bool false))
      none)
     (ob (dBin .neq (proj 1 x0) (.int .i64 0)) fun d8 =>
     oif d8
      (some (.bool false))
      (ob (dLen (proj 2 x0)) fun d9 =>
      P_typ_right_9h R (proj 2 x0) d9 (.int .i64 0)))))
   none) := evP_of [] (by kernel_rfl)
theorem eq_typ_right_9h (R : Orc) (t33 : DV) (t34 : DV) (t35 : DV) : P_typ_right_9h R t33 t34 t35 =
  (ob (dBin .lss t35 t34) fun d1 =>
  oif d1
   (ob (dIdx 3 t33 t35) fun d2 =>
   ob (R.p F_typ_right [(.agg [(proj 0 d2), (proj 1 d2), (proj 2 d2)])]) fun d3 =>
   ob (dUn .not d3) fun d4 =>
   oif d4
    (some (.bool false))
    (ob (dBin .add t35 (.int .i64 1)) fun d5 =>
    P_typ_right_9h R t33 t34 d5))
   (some (.bool true))) := headP_of [] (by kernel_rfl)
theorem fix_typ_right (x0 : DV) : (run cfg).p F_typ_right [x0] = P_typ_right (run cfg) x0 :=
  (fix_pure (C := cfg) (f := F_typ_right) (fn := Try.f95) (c := code_typ_right) (by kernel_rfl) Try.func95 (by kernel_rfl)).trans (by kernel_rfl)
theorem call_typ_right (x0 : DV) {d : DV} (h : P_typ_right (run cfg) x0 = some d) : (run cfg).p F_typ_right [x0] = some d := (fix_typ_right x0).trans h

noncomputable def code_typ_without : Code := Try.f96.body.getD .skip
noncomputable def P_typ_without (R : Orc) (x0 : DV) (x1 : DV) : Option DV := evP cfg R fl_typ_without (retP cfg.P Try.f96) [] code_typ_without (initSt Try.f96 [(x0, .val), (x1, .val)] [])
noncomputable def P_typ_without_4h (R : Orc) (t1 : DV) (t12 : DV) (t13 : DV) (t14 : DV) : Option DV := headP cfg R fl_typ_without (retP cfg.P Try.f96) [true, true, false, true, false] code_typ_without ⟨spread .undef 23 0 [(1, t1), (12, t12), (13, t13), (14, t14)], spread .val 23 0 [], spread none 23 0 [], []⟩
theorem eq_typ_without (R : Orc) (x0 : DV) (x1 : DV) : P_typ_without R x0 x1 =
  (og (isAggN 3 x0) <|
  ob (dBin .eql (proj 0 x0) x1) fun d1 =>
  oif d1
   (some (.bool false))
   (ob (dLen (proj 2 x0)) fun d2 =>
   P_typ_without_4h R x1 (proj 2 x0) d2 (.int .i64 0))) := evP_of [] (by kernel_rfl)
theorem eq_typ_without_4h (R : Orc) (t1 : DV) (t12 : DV) (t13 : DV) (t14 : DV) : P_typ_without_4h R t1 t12 t13 t14 =
  (ob (dBin .lss t14 t13) fun d1 =>
  oif d1
   (ob (dIdx 3 t12 t14) fun d2 =>
   ob (R.p F_typ_without [(.agg [(proj 0 d2), (proj 1 d2), (proj 2 d2)]), t1]) fun d3 =>
   ob (dUn .not d3) fun d4 =>
   oif d4
    (some (.bool false))
    (ob (dBin .add t14 (.int .i64 1)) fun d5 =>
    P_typ_without_4h R t1 t12 t13 d5))
   (some (.bool true))) := headP_of [] (by kernel_rfl)
theorem fix_typ_without (x0 : DV) (x1 : DV) : (run cfg).p F_typ_without [x0, x1] = P_typ_without (run cfg) x0 x1 :=
  (fix_pure (C := cfg) (f := F_typ_without) (fn := Try.f96) (c := code_typ_without) (by kernel_rfl) Try.func96 (by kernel_rfl)).trans (by kernel_rfl)
theorem call_typ_without (x0 : DV) (x1 : DV) {d : DV} (h : P_typ_without (run cfg) x0 x1 = some d) : (run cfg).p F_typ_without [x0, x1] = some d := (fix_typ_without x0 x1).trans h

noncomputable def code_r03_Kids : Code := Try.f97.body.getD .skip
noncomputable def P_r03_Kids (R : Orc) (x0 : DV) : Option DV := evP cfg R fl_r03_Kids (retP cfg.P Try.f97) [] code_r03_Kids (initSt Try.f97 [(x0, .val)] [])
theorem eq_r03_Kids (R : Orc) (x0 : DV) : P_r03_Kids R x0 =
  (ob (dBin .eql x0 (.int .i64 1)) fun d1 =>
  oif d1
   (some (.int .i64 0))
   (ob (dBin .eql x0 (.int .i64 2)) fun d2 =>
   oif d2
    (some (.int .i64 0))
    (ob (dBin .eql x0 (.int .i64 3)) fun d3 =>
    oif d3
     (some (.int .i64 0))
     (ob (dBin .eql x0 (.int .i64 4)) fun d4 =>
     oif d4
      (some (.int .i64 0))
      (ob (dBin .eql x0 (.int .i64 5)) fun d5 =>
      oif d5
       (some (.int .i64 0))
       (ob (dBin .eql x0 (.int .i64 6)) fun d6 =>
       oif d6
        (some (.int .i64 0))
        (ob (dBin .eql x0 (.int .i64 8)) fun d7 =>
        oif d7
         (some (.int .i64 1))
         (ob (dBin .eql x0 (.int .i64 7)) fun d8 =>
         oif d8
          (some (.int .i64 2))
          (ob (dBin .eql x0 (.int .i64 9)) fun d9 =>
          oif d9
           (some (.int .i64 2))
           (some (.int .i64 (-1)))))))))))) := evP_of [] (by kernel_rfl)
theorem fix_r03_Kids (x0 : DV) : (run cfg).p F_r03_Kids [x0] = P_r03_Kids (run cfg) x0 :=
  (fix_pure (C := cfg) (f := F_r03_Kids) (fn := Try.f97) (c := code_r03_Kids) (by kernel_rfl) Try.func97 (by kernel_rfl)).trans (by kernel_rfl)
theorem call_r03_Kids (x0 : DV) {d : DV} (h : P_r03_Kids (run cfg) x0 = some d) : (run cfg).p F_r03_Kids [x0] = some d := (fix_r03_Kids x0).trans h

noncomputable def code_r01_digit : Code := Try.f98.body.getD .skip
noncomputable def P_r01_digit (R : Orc) (x0 : DV) : Option DV := evP cfg R fl_r01_digit (retP cfg.P Try.f98) [] code_r01_digit (initSt Try.f98 [(x0, .val)] [])
theorem eq_r01_digit (R : Orc) (x0 : DV) : P_r01_digit R x0 =
  (ob (dBin .geq x0 (.int .u8 48)) fun d1 =>
  ogd d1
   (ob (dBin .leq x0 (.int .u8 57)) fun d2 =>
   some d2)
   (some (.bool false))
   none) := evP_of [] (by kernel_rfl)
theorem fix_r01_digit (x0 : DV) : (run cfg).p F_r01_digit [x0] = P_r01_digit (run cfg) x0 :=
  (fix_pure (C := cfg) (f := F_r01_digit) (fn := Try.f98) (c := code_r01_digit) (by kernel_rfl) Try.func98 (by kernel_rfl)).trans (by kernel_rfl)
theorem call_r01_digit (x0 : DV) {d : DV} (h : P_r01_digit (run cfg) x0 = some d) : (run cfg).p F_r01_digit [x0] = some d := (fix_r01_digit x0).trans h

noncomputable def code_typ_arity : Code := Try.f105.body.getD .skip
noncomputable def P_typ_arity (R : Orc) (x0 : DV) : Option DV := evP cfg R fl_typ_arity (retP cfg.P Try.f105) [] code_typ_arity (initSt Try.f105 [(x0, .val)] [])
theorem eq_typ_arity (R : Orc) (x0 : DV) : P_typ_arity R x0 =
  (ob (dBin .eql x0 (.int .i64 1)) fun d1 =>
  oif d1
   (some (.int .i64 0))
   (ob (dBin .eql x0 (.int .i64 2)) fun d2 =>
   oif d2
    (some (.int .i64 0))
    (ob (dBin .eql x0 (.int .i64 3)) fun d3 =>
    oif d3
     (some (.int .i64 0))
     (ob (dBin .eql x0 (.int .i64 4)) fun d4 =>
     oif d4
      (some (.int .i64 0))
      (ob (dBin .eql x0 (.int .i64 5)) fun d5 =>
      oif d5
       (some (.int .i64 0))
       (ob (dBin .eql x0 (.int .i64 6)) fun d6 =>
       oif d6
        (some (.int .i64 0))
        (ob (dBin .eql x0 (.int .i64 8)) fun d7 =>
        oif d7
         (some (.int .i64 1))
         (ob (dBin .eql x0 (.int .i64 7)) fun d8 =>
         oif d8
          (some (.int .i64 2))
          (ob (dBin .eql x0 (.int .i64 9)) fun d9 =>
          oif d9
           (some (.int .i64 2))
           (some (.int .i64 (-1)))))))))))) := evP_of [] (by kernel_rfl)
theorem fix_typ_arity (x0 : DV) : (run cfg).p F_typ_arity [x0] = P_typ_arity (run cfg) x0 :=
  (fix_pure (C := cfg) (f := F_typ_arity) (fn := Try.f105) (c := code_typ_arity) (by kernel_rfl) Try.func105 (by kernel_rfl)).trans (by kernel_rfl)
theorem call_typ_arity (x0 : DV) {d : DV} (h : P_typ_arity (run cfg) x0 = some d) : (run cfg).p F_typ_arity [x0] = some d := (fix_typ_arity x0).trans h

end Go.Su

/-
  All equations.
-/
namespace Go.Su
end Go.Su
