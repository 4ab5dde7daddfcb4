/-
  Equations of the program's functions: by program.
-/
import Derived.Test.YtgccmhlmdnimjaaGreatP5
namespace Go.Su
open Go.Proofs
set_option linter.unusedVariables false

/-! ### r17_flat -/
noncomputable def code_r17_flat : Code := Tryz.f96.body.getD .skip
noncomputable def P_r17_flat (R : Orc) (x0 : DV) (x1 : DV) : Option DV := evP cfg R fl_r17_flat (retP cfg.P Tryz.f96) [] code_r17_flat (initSt Tryz.f96 [(x0, .val), (x1, .val)] [])
noncomputable def P_r17_flat_3 (R : Orc) (b2 : DV) (b3 : DV) : Option DV := evP cfg R fl_r17_flat (retP cfg.P Tryz.f96) [true, true] code_r17_flat ⟨spread .undef 153 0 [], spread .val 153 0 [(2, (.loc 2 0)), (3, (.loc 3 0))], spread none 153 0 [(2, some [((proj 0 b2), .val), ((proj 1 b2), .val), ((proj 2 b2), .val), ((proj 3 b2), .val), ((proj 4 b2), .val), ((proj 5 b2), .val), ((proj 6 b2), .val), ((proj 7 b2), .val), ((proj 8 b2), .val), ((proj 9 b2), .val), ((proj 10 b2), .val), ((proj 11 b2), .val), ((proj 12 b2), .val), ((proj 13 b2), .val), ((proj 14 b2), .val), ((proj 15 b2), .val), ((proj 16 b2), .val), ((proj 17 b2), .val), ((proj 18 b2), .val), ((proj 19 b2), .val)]), (3, some [((proj 0 b3), .val), ((proj 1 b3), .val), ((proj 2 b3), .val), ((proj 3 b3), .val), ((proj 4 b3), .val), ((proj 5 b3), .val), ((proj 6 b3), .val), ((proj 7 b3), .val), ((proj 8 b3), .val), ((proj 9 b3), .val), ((proj 10 b3), .val), ((proj 11 b3), .val), ((proj 12 b3), .val), ((proj 13 b3), .val), ((proj 14 b3), .val), ((proj 15 b3), .val), ((proj 16 b3), .val), ((proj 17 b3), .val), ((proj 18 b3), .val), ((proj 19 b3), .val)])], []⟩
noncomputable def P_r17_flat_6h (R : Orc) (t5 : DV) (b2 : DV) (b3 : DV) : Option DV := headP cfg R fl_r17_flat (retP cfg.P Tryz.f96) [true, true, true, false, true, false] code_r17_flat ⟨spread .undef 153 0 [(5, t5)], spread .val 153 0 [(2, (.loc 2 0)), (3, (.loc 3 0))], spread none 153 0 [(2, some [((proj 0 b2), .val), ((proj 1 b2), .val), ((proj 2 b2), .val), ((proj 3 b2), .val), ((proj 4 b2), .val), ((proj 5 b2), .val), ((proj 6 b2), .val), ((proj 7 b2), .val), ((proj 8 b2), .val), ((proj 9 b2), .val), ((proj 10 b2), .val), ((proj 11 b2), .val), ((proj 12 b2), .val), ((proj 13 b2), .val), ((proj 14 b2), .val), ((proj 15 b2), .val), ((proj 16 b2), .val), ((proj 17 b2), .val), ((proj 18 b2), .val), ((proj 19 b2), .val)]), (3, some [((proj 0 b3), .val), ((proj 1 b3), .val), ((proj 2 b3), .val), ((proj 3 b3), .val), ((proj 4 b3), .val), ((proj 5 b3), .val), ((proj 6 b3), .val), ((proj 7 b3), .val), ((proj 8 b3), .val), ((proj 9 b3), .val), ((proj 10 b3), .val), ((proj 11 b3), .val), ((proj 12 b3), .val), ((proj 13 b3), .val), ((proj 14 b3), .val), ((proj 15 b3), .val), ((proj 16 b3), .val), ((proj 17 b3), .val), ((proj 18 b3), .val), ((proj 19 b3), .val)])], []⟩
noncomputable def P_r17_flat_11h (R : Orc) (t6 : DV) (b2 : DV) (b3 : DV) : Option DV := headP cfg R fl_r17_flat (retP cfg.P Tryz.f96) [true, true, true, true, false, true, false] code_r17_flat ⟨spread .undef 153 0 [(6, t6)], spread .val 153 0 [(2, (.loc 2 0)), (3, (.loc 3 0))], spread none 153 0 [(2, some [((proj 0 b2), .val), ((proj 1 b2), .val), ((proj 2 b2), .val), ((proj 3 b2), .val), ((proj 4 b2), .val), ((proj 5 b2), .val), ((proj 6 b2), .val), ((proj 7 b2), .val), ((proj 8 b2), .val), ((proj 9 b2), .val), ((proj 10 b2), .val), ((proj 11 b2), .val), ((proj 12 b2), .val), ((proj 13 b2), .val), ((proj 14 b2), .val), ((proj 15 b2), .val), ((proj 16 b2), .val), ((proj 17 b2), .val), ((proj 18 b2), .val), ((proj 19 b2), .val)]), (3, some [((proj 0 b3), .val), ((proj 1 b3), .val), ((proj 2 b3), .val), ((proj 3 b3), .val), ((proj 4 b3), .val), ((proj 5 b3), .val), ((proj 6 b3), .val), ((proj 7 b3), .val), ((proj 8 b3), .val), ((proj 9 b3), .val), ((proj 10 b3), .val), ((proj 11 b3), .val), ((proj 12 b3), .val), ((proj 13 b3), .val), ((proj 14 b3), .val), ((proj 15 b3), .val), ((proj 16 b3), .val), ((proj 17 b3), .val), ((proj 18 b3), .val), ((proj 19 b3), .val)])], []⟩
set_option maxRecDepth 100000 in
theorem eq_r17_flat (R : Orc) (x0 : DV) (x1 : DV) : P_r17_flat R x0 x1 =
  (og (isAggN 20 x0) <|
  og (isAggN 20 x1) <|
  ob (dBin .neq (proj 0 x0) (proj 0 x1)) fun d1 =>
  ogd d1
   (some (.bool false))
   (ob (dEqA [.int, .int] (.agg [(proj 1 x0), (proj 2 x0)]) (.agg [(proj 1 x1), (proj 2 x1)])) fun b2 =>
   ogd (.bool !b2)
    (some (.bool false))
    (ob (dBin .neq (proj 3 x0) (proj 3 x1)) fun d3 =>
    ogd d3
     (some (.bool false))
     (ob (dBin .neq (proj 4 x0) (proj 4 x1)) fun d4 =>
     ogd d4
      (some (.bool false))
      (ob (dBin .neq (proj 5 x0) (proj 5 x1)) fun d5 =>
      ogd d5
       (some (.bool false))
       (ob (dBin .neq (proj 6 x0) (proj 6 x1)) fun d6 =>
       ogd d6
        (some (.bool false))
        (ob (dBin .neq (proj 7 x0) (proj 7 x1)) fun d7 =>
        ogd d7
         (some (.bool false))
         (ob (dBin .neq (proj 8 x0) (proj 8 x1)) fun d8 =>
         ogd d8
          (some (.bool false))
          (ob (dEqB (proj 9 x0) (proj 9 x1)) fun b9 =>
          oif (.bool !b9)
           (some (.bool false))
           (P_r17_flat_3 R x0 x1))
          none)
         none)
        none)
       none)
      none)
     none)
    none)
   none) := evP_of [3] (by kernel_rfl)
set_option maxRecDepth 100000 in
theorem eq_r17_flat_3 (R : Orc) (b2 : DV) (b3 : DV) : P_r17_flat_3 R b2 b3 =
  (ob (dLen (proj 10 b2)) fun d1 =>
  ob (dLen (proj 10 b3)) fun d2 =>
  ob (dBin .neq d1 d2) fun d3 =>
  ogd d3
   (some (.bool false))
   (ob (dLen (proj 18 b2)) fun d4 =>
   ob (dLen (proj 18 b3)) fun d5 =>
   ob (dBin .neq d4 d5) fun d6 =>
   ogd d6
    (some (.bool false))
    (ob (R.p F_r03_SameAll [(proj 17 b2), (proj 17 b3)]) fun d7 =>
    ob (dUn .not d7) fun d8 =>
    ogd d8
     (some (.bool false))
     (ob (R.p F_r03_Same [(.agg [(proj 11 b2), (proj 12 b2), (proj 13 b2)]), (.agg [(proj 11 b3), (proj 12 b3), (proj 13 b3)])]) fun d9 =>
     ob (dUn .not d9) fun d10 =>
     ogd d10
      (some (.bool false))
      (ob (R.p F_r03_Same [(.agg [(proj 14 b2), (proj 15 b2), (proj 16 b2)]), (.agg [(proj 14 b3), (proj 15 b3), (proj 16 b3)])]) fun d11 =>
      ob (dUn .not d11) fun d12 =>
      oif d12
       (some (.bool false))
       (P_r17_flat_6h R (.int .i64 0) b2 b3))
      none)
     none)
    none)
   none) := evP_of [3] (by kernel_rfl)
theorem eq_r17_flat_6h (R : Orc) (t5 : DV) (b2 : DV) (b3 : DV) : P_r17_flat_6h R t5 b2 b3 =
  (ob (dLen (proj 10 b2)) fun d1 =>
  ob (dBin .lss t5 d1) fun d2 =>
  oif d2
   (ob (dIdx 1 (proj 10 b2) t5) fun d3 =>
   og (isLeaf d3) <|
   ob (dIdx 1 (proj 10 b3) t5) fun d4 =>
   og (isLeaf d4) <|
   ob (dBin .neq d3 d4) fun d5 =>
   oif d5
    (some (.bool false))
    (ob (dBin .add t5 (.int .i64 1)) fun d6 =>
    P_r17_flat_6h R d6 b2 b3))
   (P_r17_flat_11h R (.int .i64 0) b2 b3)) := headP_of [3] (by kernel_rfl)
theorem eq_r17_flat_11h (R : Orc) (t6 : DV) (b2 : DV) (b3 : DV) : P_r17_flat_11h R t6 b2 b3 =
  (ob (dLen (proj 18 b2)) fun d1 =>
  ob (dBin .lss t6 d1) fun d2 =>
  oif d2
   (ob (dBin .add t6 (.int .i64 1)) fun d3 =>
   ob (dSlice 7 (proj 18 b2) (some t6) (some d3)) fun d4 =>
   og (isCell d4) <|
   ob (dBin .add t6 (.int .i64 1)) fun d5 =>
   ob (dSlice 7 (proj 18 b3) (some t6) (some d5)) fun d6 =>
   og (isCell d6) <|
   ob (R.p F_r05_SameAt [(.agg [(.int .i64 14), (.int .i64 0), (.int .i64 0), (.str ⟨#[]⟩), (.str ⟨#[]⟩), (.int .i64 0), (.str ⟨#[]⟩), (.int .i64 0), (.int .i64 0), (.int .i64 0), (.list 3 []), (.int .i64 0), (.int .i64 0), (.list 3 []), d4, (.list 16 [])]), (.agg [(.int .i64 14), (.int .i64 0), (.int .i64 0), (.str ⟨#[]⟩), (.str ⟨#[]⟩), (.int .i64 0), (.str ⟨#[]⟩), (.int .i64 0), (.int .i64 0), (.int .i64 0), (.list 3 []), (.int .i64 0), (.int .i64 0), (.list 3 []), d6, (.list 16 [])])]) fun d7 =>
   ob (dUn .not d7) fun d8 =>
   oif d8
    (some (.bool false))
    (ob (dBin .add t6 (.int .i64 1)) fun d9 =>
    P_r17_flat_11h R d9 b2 b3))
   (some (.bool true))) := headP_of [3] (by kernel_rfl)
theorem call_r17_flat (x0 : DV) (x1 : DV) {d : DV} (h : P_r17_flat (run cfg) x0 x1 = some d) : (run cfg).p F_r17_flat [x0, x1] = some d :=
  run_pure (fn := Tryz.f96) (c := code_r17_flat) (by kernel_rfl) Tryz.func96 (by kernel_rfl) ((show _ = P_r17_flat (run cfg) x0 x1 by kernel_rfl).trans h)

/-! ### tree_CheckPat -/
noncomputable def code_tree_CheckPat : Code := Tryz.f104.body.getD .skip
noncomputable def P_tree_CheckPat (R : Orc) (x0 : DV) : Option DV := evP cfg R fl_tree_CheckPat (retP cfg.P Tryz.f104) [] code_tree_CheckPat (initSt Tryz.f104 [(x0, .val)] [])
noncomputable def P_tree_CheckPat_r0 (R : Orc) (t0 : DV) (t6 : DV) (sg : List SObj) : Option DV := evP cfg R fl_tree_CheckPat (retP cfg.P Tryz.f104) [true, true, false, true, false] code_tree_CheckPat ⟨spread .undef 32 0 [(0, t0), (4, (.tup [])), (6, t6), (8, (.tup [])), (9, (.tup [])), (10, (.tup [])), (11, (.tup [])), (12, (.tup [])), (13, (.tup [])), (14, (.tup [])), (15, (.tup [])), (16, (.tup [])), (17, (.tup [])), (18, (.tup [])), (19, (.tup [])), (20, (.tup [])), (21, (.tup [])), (22, (.tup [])), (23, (.tup [])), (24, (.tup [])), (25, (.tup [])), (26, (.tup [])), (27, (.tup [])), (28, (.tup [])), (29, (.tup [])), (30, (.tup [])), (31, (.tup []))], spread .val 32 0 [(1, (.ptr 0 0)), (2, (.ptr 1 0)), (3, (.ptr 3 0)), (5, (.map 2)), (7, (.fn 242 [(4, 0)]))], spread none 32 0 [], sg⟩
noncomputable def rcode_tree_CheckPat_r0 : Code := match (sub [true, true, false, true, false] code_tree_CheckPat []).1 with
  | .rangeFunc _ _ a b => .seq a b
  | c => c
noncomputable def X_tree_CheckPat_r0 (R : Orc) (t0 : DV) (t6 : DV) (o : Out) (sg : List SObj) : Option DV := konP cfg R fl_tree_CheckPat (retP cfg.P Tryz.f104) [true, true, false, true, false] code_tree_CheckPat o (outerSt ⟨spread .undef 32 0 [(0, t0), (4, (.tup [])), (6, t6), (8, (.tup [])), (9, (.tup [])), (10, (.tup [])), (11, (.tup [])), (12, (.tup [])), (13, (.tup [])), (14, (.tup [])), (15, (.tup [])), (16, (.tup [])), (17, (.tup [])), (18, (.tup [])), (19, (.tup [])), (20, (.tup [])), (21, (.tup [])), (22, (.tup [])), (23, (.tup [])), (24, (.tup [])), (25, (.tup [])), (26, (.tup [])), (27, (.tup [])), (28, (.tup [])), (29, (.tup [])), (30, (.tup [])), (31, (.tup []))], spread .val 32 0 [(1, (.ptr 0 0)), (2, (.ptr 1 0)), (3, (.ptr 3 0)), (5, (.map 2)), (7, (.fn 242 [(4, 0)]))], spread none 32 0 [], []⟩ sg)
noncomputable def B_tree_CheckPat_r0 (R : Orc) (t0 : DV) (t6 : DV) (I : List SObj → Option DV) (x : DV) (sg : List SObj) : Option DV := evP cfg R fl_tree_CheckPat (kr I (X_tree_CheckPat_r0 R t0 t6)) [] rcode_tree_CheckPat_r0 ⟨spread .undef 32 0 [(8, x)], spread .val 32 0 [(2, (.ptr 1 0)), (3, (.ptr 3 0))], spread none 32 0 [], sg⟩
noncomputable def I_tree_CheckPat_r0 (R : Orc) (t0 : DV) (t6 : DV) : List DV → List SObj → Option DV := foldIt (fun x I sg => B_tree_CheckPat_r0 R t0 t6 I x sg) (X_tree_CheckPat_r0 R t0 t6 .normal)
noncomputable def P_tree_CheckPat_6 (R : Orc) (t0 : DV) (t6 : DV) (I : List SObj → Option DV) (b4 : DV) (sg : List SObj) : Option DV := evP cfg R fl_tree_CheckPat (kr I (X_tree_CheckPat_r0 R t0 t6)) [true, false, true] rcode_tree_CheckPat_r0 ⟨spread .undef 32 0 [], spread .val 32 0 [(3, (.ptr 3 0)), (4, (.loc 4 0))], spread none 32 0 [(4, some [((proj 0 b4), .val), ((proj 1 b4), .val), ((proj 2 b4), .val), ((proj 3 b4), .val), ((proj 4 b4), .val), ((proj 5 b4), .val), ((proj 6 b4), .val)])], sg⟩
theorem eq_tree_CheckPat (R : Orc) (x0 : DV) : P_tree_CheckPat R x0 =
  (og (isAggN 7 x0) <|
  P_tree_CheckPat_r0 R x0 (.agg [(proj 0 x0), (proj 1 x0), (proj 2 x0), (proj 3 x0), (proj 4 x0), (proj 5 x0), (proj 6 x0)]) [SObj.box [((proj 0 x0), .val), ((proj 1 x0), .val), ((proj 2 x0), .val), ((proj 3 x0), .val), ((proj 4 x0), .val), ((proj 5 x0), .val), ((proj 6 x0), .val)], SObj.box [((.int .i64 0), .val)], .map true [], SObj.box [(.undef, (.map 2))], SObj.box [((proj 0 x0), .val), ((proj 1 x0), .val), ((proj 2 x0), .val), ((proj 3 x0), .val), ((proj 4 x0), .val), ((proj 5 x0), .val), ((proj 6 x0), .val)]]) := evP_of [6] (by kernel_rfl)
theorem eq_tree_CheckPat_r0 (R : Orc) (t0 : DV) (t6 : DV) (sg : List SObj) : P_tree_CheckPat_r0 R t0 t6 sg =
  ob (sgBox sg 4) fun cs => ob (allDat cs) fun cd => ob (flatD 7 6 cd) fun ds => I_tree_CheckPat_r0 R t0 t6 ds (sg.set 4 (.arr 1 [])) :=
  (rangeP2 (t := 7) (f := 242) (i := 4) (q := 8) (it := flatD 7 6) (by kernel_rfl) (by kernel_rfl) (by kernel_rfl) (by kernel_rfl)).trans (by kernel_rfl)
theorem I_tree_CheckPat_r0_nil (R : Orc) (t0 : DV) (t6 : DV) (sg : List SObj) : I_tree_CheckPat_r0 R t0 t6 [] sg = X_tree_CheckPat_r0 R t0 t6 .normal sg := rfl
theorem I_tree_CheckPat_r0_cons (R : Orc) (t0 : DV) (t6 : DV) (x : DV) (ds : List DV) (sg : List SObj) : I_tree_CheckPat_r0 R t0 t6 (x :: ds) sg = B_tree_CheckPat_r0 R t0 t6 (I_tree_CheckPat_r0 R t0 t6 ds) x sg := rfl
theorem eq_B_tree_CheckPat_r0 (R : Orc) (t0 : DV) (t6 : DV) (I : List SObj → Option DV) (x : DV) (sg : List SObj) : B_tree_CheckPat_r0 R t0 t6 I x sg =
  (og (isAggN 7 x) <|
  ob (R.p F_tree_onePat [(.agg [(proj 0 x), (proj 1 x), (proj 2 x), (proj 3 x), (proj 4 x), (proj 5 x), (proj 6 x)])]) fun d1 =>
  ob (dUn .not d1) fun d2 =>
  ogd d2
   (ob (sgBox sg 1) fun c3 =>
   ob (c3[0]?) fun u4 =>
   X_tree_CheckPat_r0 R t0 t6 .ret (sg.set 1 (SObj.box (c3.set 0 ((.int .i64 1), .val)))))
   (ob (dBin .eql (proj 0 x) (.int .i64 2)) fun d5 =>
   ogd d5
    (ob (sgBox sg 3) fun c6 =>
    ob (cellMap c6 0) fun i7 =>
    og (isKey true (proj 3 x) && true) <|
    ob (sgMap sg i7) fun m8 =>
    og (m8.1 == true) <|
    ob (dBin .gtr ((mGet m8.2 (proj 3 x)).getD (.int .i64 0)) (.int .i64 0)) fun d9 =>
    oif d9
     (ob (sgBox sg 1) fun c10 =>
     ob (c10[0]?) fun u11 =>
     X_tree_CheckPat_r0 R t0 t6 .ret (sg.set 1 (SObj.box (c10.set 0 ((.int .i64 1), .val)))))
     (P_tree_CheckPat_6 R t0 t6 I x sg))
    (P_tree_CheckPat_6 R t0 t6 I x sg)
    none)
   none) := evP_of [6] (by kernel_rfl)
theorem eq_X_tree_CheckPat_r0_normal (R : Orc) (t0 : DV) (t6 : DV) (sg : List SObj) : X_tree_CheckPat_r0 R t0 t6 .normal sg =
  (ob (sgBox sg 1) fun c1 =>
  ob (c1[0]?) fun u2 =>
  ret1 (ob (sgBox (sg.set 1 (SObj.box (c1.set 0 ((.int .i64 0), .val)))) 1) fun c => oneCell (sg.set 1 (SObj.box (c1.set 0 ((.int .i64 0), .val)))) c)) := konP_of [6] (by kernel_rfl)
theorem eq_X_tree_CheckPat_r0_ret (R : Orc) (t0 : DV) (t6 : DV) (sg : List SObj) : X_tree_CheckPat_r0 R t0 t6 .ret sg =
  (ret1 (ob (sgBox sg 1) fun c => oneCell sg c)) := konP_of [6] (by kernel_rfl)
theorem eq_tree_CheckPat_6 (R : Orc) (t0 : DV) (t6 : DV) (I : List SObj → Option DV) (b4 : DV) (sg : List SObj) : P_tree_CheckPat_6 R t0 t6 I b4 sg =
  (ob (dBin .eql (proj 0 b4) (.int .i64 2)) fun d1 =>
  oif d1
   (ob (sgBox sg 3) fun c2 =>
   ob (cellMap c2 0) fun i3 =>
   og (isKey true (proj 3 b4) && true) <|
   ob (sgMap sg i3) fun m4 =>
   og (m4.1 == true) <|
   ob (dBin .add ((mGet m4.2 (proj 3 b4)).getD (.int .i64 0)) (.int .i64 1)) fun d5 =>
   og (isKey true (proj 3 b4) && true && true) <|
   ob (sgMap sg i3) fun m6 =>
   og (m6.1 == true) <|
   I (sg.set i3 (.map true (mSet m6.2 (proj 3 b4) d5))))
   (I sg)) := evP_of [6] (by kernel_rfl)
theorem call_tree_CheckPat (x0 : DV) {d : DV} (h : P_tree_CheckPat (run cfg) x0 = some d) : (run cfg).p F_tree_CheckPat [x0] = some d :=
  run_pure (fn := Tryz.f104) (c := code_tree_CheckPat) (by kernel_rfl) Tryz.func104 (by kernel_rfl) ((show _ = P_tree_CheckPat (run cfg) x0 by kernel_rfl).trans h)

/-! ### typ_Same -/
noncomputable def code_typ_Same : Code := Tryz.f120.body.getD .skip
noncomputable def P_typ_Same (R : Orc) (x0 : DV) (x1 : DV) : Option DV := evP cfg R fl_typ_Same (retP cfg.P Tryz.f120) [] code_typ_Same (initSt Tryz.f120 [(x0, .val), (x1, .val)] [])
noncomputable def P_typ_Same_4h (R : Orc) (t29 : DV) (t30 : DV) (t31 : DV) (b3 : DV) : Option DV := headP cfg R fl_typ_Same (retP cfg.P Tryz.f120) [true, true, false, true, false] code_typ_Same ⟨spread .undef 45 0 [(29, t29), (30, t30), (31, t31)], spread .val 45 0 [(3, (.loc 3 0))], spread none 45 0 [(3, some [((proj 0 b3), .val), ((proj 1 b3), .val), ((proj 2 b3), .val)])], []⟩
set_option maxRecDepth 100000 in
theorem eq_typ_Same (R : Orc) (x0 : DV) (x1 : DV) : P_typ_Same R x0 x1 =
  (og (isAggN 3 x0) <|
  og (isAggN 3 x1) <|
  ob (dBin .neq (proj 0 x0) (proj 0 x1)) fun d1 =>
  ogd d1
   (some (.bool false))
   (ob (dBin .neq (proj 1 x0) (proj 1 x1)) fun d2 =>
   ogd d2
    (some (.bool false))
    (ob (dLen (proj 2 x0)) fun d3 =>
    ob (dLen (proj 2 x1)) fun d4 =>
    ob (dBin .neq d3 d4) fun d5 =>
    oif d5
     (some (.bool false))
     (ob (dLen (proj 2 x0)) fun d6 =>
     P_typ_Same_4h R (proj 2 x0) d6 (.int .i64 0) x1))
    none)
   none) := evP_of [] (by kernel_rfl)
theorem eq_typ_Same_4h (R : Orc) (t29 : DV) (t30 : DV) (t31 : DV) (b3 : DV) : P_typ_Same_4h R t29 t30 t31 b3 =
  (ob (dBin .lss t31 t30) fun d1 =>
  oif d1
   (ob (dIdx 3 t29 t31) fun d2 =>
   ob (dIdx 3 (proj 2 b3) t31) fun d3 =>
   ob (R.p F_typ_Same [(.agg [(proj 0 d2), (proj 1 d2), (proj 2 d2)]), (.agg [(proj 0 d3), (proj 1 d3), (proj 2 d3)])]) fun d4 =>
   ob (dUn .not d4) fun d5 =>
   oif d5
    (some (.bool false))
    (ob (dBin .add t31 (.int .i64 1)) fun d6 =>
    P_typ_Same_4h R t29 t30 d6 b3))
   (some (.bool true))) := headP_of [] (by kernel_rfl)
theorem call_typ_Same (x0 : DV) (x1 : DV) {d : DV} (h : P_typ_Same (run cfg) x0 x1 = some d) : (run cfg).p F_typ_Same [x0, x1] = some d :=
  run_pure (fn := Tryz.f120) (c := code_typ_Same) (by kernel_rfl) Tryz.func120 (by kernel_rfl) ((show _ = P_typ_Same (run cfg) x0 x1 by kernel_rfl).trans h)

/-! ### r03_Same -/
noncomputable def code_r03_Same : Code := Tryz.f124.body.getD .skip
noncomputable def P_r03_Same (R : Orc) (x0 : DV) (x1 : DV) : Option DV := evP cfg R fl_r03_Same (retP cfg.P Tryz.f124) [] code_r03_Same (initSt Tryz.f124 [(x0, .val), (x1, .val)] [])
noncomputable def P_r03_Same_4h (R : Orc) (t5 : DV) (b2 : DV) (b3 : DV) : Option DV := headP cfg R fl_r03_Same (retP cfg.P Tryz.f124) [true, true, false, true, false] code_r03_Same ⟨spread .undef 46 0 [(5, t5)], spread .val 46 0 [(2, (.loc 2 0)), (3, (.loc 3 0))], spread none 46 0 [(2, some [((proj 0 b2), .val), ((proj 1 b2), .val), ((proj 2 b2), .val)]), (3, some [((proj 0 b3), .val), ((proj 1 b3), .val), ((proj 2 b3), .val)])], []⟩
set_option maxRecDepth 100000 in
theorem eq_r03_Same (R : Orc) (x0 : DV) (x1 : DV) : P_r03_Same R x0 x1 =
  (og (isAggN 3 x0) <|
  og (isAggN 3 x1) <|
  ob (dBin .neq (proj 0 x0) (proj 0 x1)) fun d1 =>
  ogd d1
   (some (.bool false))
   (ob (dBin .neq (proj 1 x0) (proj 1 x1)) fun d2 =>
   ogd d2
    (some (.bool false))
    (ob (dLen (proj 2 x0)) fun d3 =>
    ob (dLen (proj 2 x1)) fun d4 =>
    ob (dBin .neq d3 d4) fun d5 =>
    oif d5
     (some (.bool false))
     (P_r03_Same_4h R (.int .i64 0) x0 x1))
    none)
   none) := evP_of [] (by kernel_rfl)
theorem eq_r03_Same_4h (R : Orc) (t5 : DV) (b2 : DV) (b3 : DV) : P_r03_Same_4h R t5 b2 b3 =
  (ob (dLen (proj 2 b2)) fun d1 =>
  ob (dBin .lss t5 d1) fun d2 =>
  oif d2
   (ob (dIdx 3 (proj 2 b2) t5) fun d3 =>
   ob (dIdx 3 (proj 2 b3) t5) fun d4 =>
   ob (R.p F_r03_Same [(.agg [(proj 0 d3), (proj 1 d3), (proj 2 d3)]), (.agg [(proj 0 d4), (proj 1 d4), (proj 2 d4)])]) fun d5 =>
   ob (dUn .not d5) fun d6 =>
   oif d6
    (some (.bool false))
    (ob (dBin .add t5 (.int .i64 1)) fun d7 =>
    P_r03_Same_4h R d7 b2 b3))
   (some (.bool true))) := headP_of [] (by kernel_rfl)
theorem call_r03_Same (x0 : DV) (x1 : DV) {d : DV} (h : P_r03_Same (run cfg) x0 x1 = some d) : (run cfg).p F_r03_Same [x0, x1] = some d :=
  run_pure (fn := Tryz.f124) (c := code_r03_Same) (by kernel_rfl) Tryz.func124 (by kernel_rfl) ((show _ = P_r03_Same (run cfg) x0 x1 by kernel_rfl).trans h)

/-! ### r05_SamePat -/
noncomputable def code_r05_SamePat : Code := Tryz.f125.body.getD .skip
noncomputable def P_r05_SamePat (R : Orc) (x0 : DV) (x1 : DV) : Option DV := evP cfg R fl_r05_SamePat (retP cfg.P Tryz.f125) [] code_r05_SamePat (initSt Tryz.f125 [(x0, .val), (x1, .val)] [])
noncomputable def P_r05_SamePat_4h (R : Orc) (t5 : DV) (b2 : DV) (b3 : DV) : Option DV := headP cfg R fl_r05_SamePat (retP cfg.P Tryz.f125) [true, true, false, true, false] code_r05_SamePat ⟨spread .undef 60 0 [(5, t5)], spread .val 60 0 [(2, (.loc 2 0)), (3, (.loc 3 0))], spread none 60 0 [(2, some [((proj 0 b2), .val), ((proj 1 b2), .val), ((proj 2 b2), .val), ((proj 3 b2), .val), ((proj 4 b2), .val), ((proj 5 b2), .val), ((proj 6 b2), .val)]), (3, some [((proj 0 b3), .val), ((proj 1 b3), .val), ((proj 2 b3), .val), ((proj 3 b3), .val), ((proj 4 b3), .val), ((proj 5 b3), .val), ((proj 6 b3), .val)])], []⟩
set_option maxRecDepth 100000 in
theorem eq_r05_SamePat (R : Orc) (x0 : DV) (x1 : DV) : P_r05_SamePat R x0 x1 =
  (og (isAggN 7 x0) <|
  og (isAggN 7 x1) <|
  ob (dBin .neq (proj 0 x0) (proj 0 x1)) fun d1 =>
  ogd d1
   (some (.bool false))
   (ob (dBin .neq (proj 3 x0) (proj 3 x1)) fun d2 =>
   ogd d2
    (some (.bool false))
    (ob (dBin .neq (proj 4 x0) (proj 4 x1)) fun d3 =>
    ogd d3
     (some (.bool false))
     (ob (dBin .neq (proj 5 x0) (proj 5 x1)) fun d4 =>
     ogd d4
      (some (.bool false))
      (ob (dLen (proj 6 x0)) fun d5 =>
      ob (dLen (proj 6 x1)) fun d6 =>
      ob (dBin .neq d5 d6) fun d7 =>
      oif d7
       (some (.bool false))
       (P_r05_SamePat_4h R (.int .i64 0) x0 x1))
      none)
     none)
    none)
   none) := evP_of [] (by kernel_rfl)
theorem eq_r05_SamePat_4h (R : Orc) (t5 : DV) (b2 : DV) (b3 : DV) : P_r05_SamePat_4h R t5 b2 b3 =
  (ob (dLen (proj 6 b2)) fun d1 =>
  ob (dBin .lss t5 d1) fun d2 =>
  oif d2
   (ob (dIdx 7 (proj 6 b2) t5) fun d3 =>
   ob (dIdx 7 (proj 6 b3) t5) fun d4 =>
   ob (R.p F_r05_SamePat [(.agg [(proj 0 d3), (proj 1 d3), (proj 2 d3), (proj 3 d3), (proj 4 d3), (proj 5 d3), (proj 6 d3)]), (.agg [(proj 0 d4), (proj 1 d4), (proj 2 d4), (proj 3 d4), (proj 4 d4), (proj 5 d4), (proj 6 d4)])]) fun d5 =>
   ob (dUn .not d5) fun d6 =>
   oif d6
    (some (.bool false))
    (ob (dBin .add t5 (.int .i64 1)) fun d7 =>
    P_r05_SamePat_4h R d7 b2 b3))
   (some (.bool true))) := headP_of [] (by kernel_rfl)
theorem call_r05_SamePat (x0 : DV) (x1 : DV) {d : DV} (h : P_r05_SamePat (run cfg) x0 x1 = some d) : (run cfg).p F_r05_SamePat [x0, x1] = some d :=
  run_pure (fn := Tryz.f125) (c := code_r05_SamePat) (by kernel_rfl) Tryz.func125 (by kernel_rfl) ((show _ = P_r05_SamePat (run cfg) x0 x1 by kernel_rfl).trans h)

/-! ### l17_light -/
noncomputable def code_l17_light : Code := Tryz.f127.body.getD .skip
noncomputable def P_l17_light (R : Orc) (x0 : DV) : Option DV := evP cfg R fl_l17_light (retP cfg.P Tryz.f127) [] code_l17_light (initSt Tryz.f127 [(x0, .val)] [])
theorem eq_l17_light (R : Orc) (x0 : DV) : P_l17_light R x0 =
  (og (isAggN 3 x0) <|
  ob (R.p F_l11_Small [(.list 3 [(.agg [(proj 0 x0), (proj 1 x0), (proj 2 x0)])])]) fun d1 =>
  ogd d1
   (ob (R.p F_r03_Size [(.agg [(proj 0 x0), (proj 1 x0), (proj 2 x0)])]) fun d2 =>
   ob (dBin .leq d2 (.int .i64 60)) fun d3 =>
   some d3)
   (some (.bool false))
   none) := evP_of [] (by kernel_rfl)
theorem call_l17_light (x0 : DV) {d : DV} (h : P_l17_light (run cfg) x0 = some d) : (run cfg).p F_l17_light [x0] = some d :=
  run_pure (fn := Tryz.f127) (c := code_l17_light) (by kernel_rfl) Tryz.func127 (by kernel_rfl) ((show _ = P_l17_light (run cfg) x0 by kernel_rfl).trans h)

/-! ### l17_weighPat -/
noncomputable def code_l17_weighPat : Code := Tryz.f128.body.getD .skip
noncomputable def P_l17_weighPat (R : Orc) (x0 : DV) (x1 : DV) : Option DV := evP cfg R fl_l17_weighPat (retP cfg.P Tryz.f128) [] code_l17_weighPat (initSt Tryz.f128 [(x0, .val), (x1, .val)] [])
noncomputable def P_l17_weighPat_5h (R : Orc) (t1 : DV) (t5 : DV) (b2 : DV) : Option DV := headP cfg R fl_l17_weighPat (retP cfg.P Tryz.f128) [true, true, true, false, true, false] code_l17_weighPat ⟨spread .undef 37 0 [(1, t1), (5, t5)], spread .val 37 0 [(2, (.loc 2 0))], spread none 37 0 [(2, some [((proj 0 b2), .val), ((proj 1 b2), .val), ((proj 2 b2), .val), ((proj 3 b2), .val), ((proj 4 b2), .val), ((proj 5 b2), .val), ((proj 6 b2), .val)])], []⟩
theorem eq_l17_weighPat (R : Orc) (x0 : DV) (x1 : DV) : P_l17_weighPat R x0 x1 =
  (og (isAggN 7 x0) <|
  ob (dLenS (proj 5 x0)) fun d1 =>
  ob (dBin .gtr d1 (.int .i64 300)) fun d2 =>
  ogd d2
   (some (.int .i64 501))
   (ob (dLenS (proj 3 x0)) fun d3 =>
   ob (dBin .gtr d3 (.int .i64 300)) fun d4 =>
   oif d4
    (some (.int .i64 501))
    (ob (dBin .add x1 (.int .i64 1)) fun d5 =>
    P_l17_weighPat_5h R d5 (.int .i64 0) x0))
   none) := evP_of [] (by kernel_rfl)
theorem eq_l17_weighPat_5h (R : Orc) (t1 : DV) (t5 : DV) (b2 : DV) : P_l17_weighPat_5h R t1 t5 b2 =
  (ob (dLen (proj 6 b2)) fun d1 =>
  ob (dBin .lss t5 d1) fun d2 =>
  ogd d2
   (ob (dBin .leq t1 (.int .i64 500)) fun d3 =>
   oif d3
    (ob (dIdx 7 (proj 6 b2) t5) fun d4 =>
    ob (R.p F_l17_weighPat [(.agg [(proj 0 d4), (proj 1 d4), (proj 2 d4), (proj 3 d4), (proj 4 d4), (proj 5 d4), (proj 6 d4)]), t1]) fun d5 =>
    ob (dBin .add t5 (.int .i64 1)) fun d6 =>
    P_l17_weighPat_5h R d5 d6 b2)
    (some t1))
   (some t1)
   none) := headP_of [] (by kernel_rfl)
theorem call_l17_weighPat (x0 : DV) (x1 : DV) {d : DV} (h : P_l17_weighPat (run cfg) x0 x1 = some d) : (run cfg).p F_l17_weighPat [x0, x1] = some d :=
  run_pure (fn := Tryz.f128) (c := code_l17_weighPat) (by kernel_rfl) Tryz.func128 (by kernel_rfl) ((show _ = P_l17_weighPat (run cfg) x0 x1 by kernel_rfl).trans h)

/-! ### r17_more -/
noncomputable def code_r17_more : Code := Tryz.f129.body.getD .skip
noncomputable def P_r17_more (R : Orc) (x0 : DV) (x1 : DV) (x2 : DV) : Option DV := evP cfg R fl_r17_more (retP cfg.P Tryz.f129) [] code_r17_more (initSt Tryz.f129 [(x0, .val), (x1, .val), (x2, .val)] [])
theorem eq_r17_more (R : Orc) (x0 : DV) (x1 : DV) (x2 : DV) : P_r17_more R x0 x1 x2 =
  (ob (dApp 2 (.list 2 []) x0) fun d1 =>
  og (isCell x1) <|
  og (isCell x2) <|
  ob (dApp 2 d1 (.list 2 [(.agg [x1, x2])])) fun d2 =>
  some d2) := evP_of [] (by kernel_rfl)
theorem call_r17_more (x0 : DV) (x1 : DV) (x2 : DV) {d : DV} (h : P_r17_more (run cfg) x0 x1 x2 = some d) : (run cfg).p F_r17_more [x0, x1, x2] = some d :=
  run_pure (fn := Tryz.f129) (c := code_r17_more) (by kernel_rfl) Tryz.func129 (by kernel_rfl) ((show _ = P_r17_more (run cfg) x0 x1 x2 by kernel_rfl).trans h)

/-! ### r16_Bulk_Of -/
noncomputable def code_r16_Bulk_Of : Code := Tryz.f130.body.getD .skip
noncomputable def P_r16_Bulk_Of (R : Orc) (x0 : Nat) (x1 : DV) (sg : List SObj) : Option (List DV × List SObj) := evP cfg R fl_r16_Bulk_Of (retR cfg.P Tryz.f130 sig_r16_Bulk_Of) [] code_r16_Bulk_Of (initSt Tryz.f130 [(.undef, (.ptr x0 0)), (x1, .val)] sg)
theorem eq_r16_Bulk_Of (R : Orc) (x0 : Nat) (x1 : DV) (sg : List SObj) : P_r16_Bulk_Of R x0 x1 sg =
  (ob (dBin .gtr x1 (.int .i64 3000)) fun d1 =>
  oif d1
   (ob (sgBox sg x0) fun c2 =>
   ob (c2[0]?) fun u3 =>
   ob (dMin x1 (.int .i64 3000)) fun d4 =>
   some ([d4], (sg.set x0 (SObj.box (c2.set 0 ((.bool true), .val))))))
   (ob (dMin x1 (.int .i64 3000)) fun d5 =>
   some ([d5], sg))) := evP_of [] (by kernel_rfl)
theorem call_r16_Bulk_Of (x0 : Nat) (x1 : DV) (sg : List SObj) {q : List DV × List SObj} (h : P_r16_Bulk_Of (run cfg) x0 x1 sg = some q) : (run cfg).r F_r16_Bulk_Of [(.undef, (.ptr x0 0)), (x1, .val)] sg = some q :=
  run_raw (s := sig_r16_Bulk_Of) (fn := Tryz.f130) (c := code_r16_Bulk_Of) (by kernel_rfl) Tryz.func130 (by kernel_rfl) ((show _ = P_r16_Bulk_Of (run cfg) x0 x1 sg by kernel_rfl).trans h)

/-! ### r05_Names -/
noncomputable def code_r05_Names : Code := Tryz.f131.body.getD .skip
noncomputable def P_r05_Names (R : Orc) (x0 : DV) : Option DV := evP cfg R fl_r05_Names (retP cfg.P Tryz.f131) [] code_r05_Names (initSt Tryz.f131 [(x0, .val)] [])
theorem eq_r05_Names (R : Orc) (x0 : DV) : P_r05_Names R x0 =
  (og (isAggN 7 x0) <|
  ob (R.r F_r05_names [((.agg [(proj 0 x0), (proj 1 x0), (proj 2 x0), (proj 3 x0), (proj 4 x0), (proj 5 x0), (proj 6 x0)]), .val), ((.list 1 []), .own)] []) fun q1 =>
  some (q1.1.getD 0 .undef)) := evP_of [] (by kernel_rfl)
theorem call_r05_Names (x0 : DV) {d : DV} (h : P_r05_Names (run cfg) x0 = some d) : (run cfg).p F_r05_Names [x0] = some d :=
  run_pure (fn := Tryz.f131) (c := code_r05_Names) (by kernel_rfl) Tryz.func131 (by kernel_rfl) ((show _ = P_r05_Names (run cfg) x0 by kernel_rfl).trans h)

/-! ### r16_Bulk_Named -/
noncomputable def code_r16_Bulk_Named : Code := Tryz.f132.body.getD .skip
noncomputable def P_r16_Bulk_Named (R : Orc) (x0 : Nat) (x1 : DV) (x2 : DV) (x3 : DV) (sg : List SObj) : Option (List DV × List SObj) := evP cfg R fl_r16_Bulk_Named (retR cfg.P Tryz.f132 sig_r16_Bulk_Named) [] code_r16_Bulk_Named (initSt Tryz.f132 [(.undef, (.ptr x0 0)), (x1, .val), (x2, .val), (x3, .val)] sg)
noncomputable def P_r16_Bulk_Named_3h (R : Orc) (t0i : Nat) (t1 : DV) (t2 : DV) (t3 : DV) (t9 : DV) (t10 : DV) (sg : List SObj) : Option (List DV × List SObj) := headP cfg R fl_r16_Bulk_Named (retR cfg.P Tryz.f132 sig_r16_Bulk_Named) [true, true, false, true, false] code_r16_Bulk_Named ⟨spread .undef 50 0 [(1, t1), (2, t2), (3, t3), (9, t9), (10, t10)], spread .val 50 0 [(0, (.ptr t0i 0))], spread none 50 0 [], sg⟩
noncomputable def P_r16_Bulk_Named_7h (R : Orc) (t0i : Nat) (t1 : DV) (t2 : DV) (t9 : DV) (t11 : DV) (sg : List SObj) : Option (List DV × List SObj) := headP cfg R fl_r16_Bulk_Named (retR cfg.P Tryz.f132 sig_r16_Bulk_Named) [true, true, true, false, true, false] code_r16_Bulk_Named ⟨spread .undef 50 0 [(1, t1), (2, t2), (9, t9), (11, t11)], spread .val 50 0 [(0, (.ptr t0i 0))], spread none 50 0 [], sg⟩
theorem eq_r16_Bulk_Named (R : Orc) (x0 : Nat) (x1 : DV) (x2 : DV) (x3 : DV) (sg : List SObj) : P_r16_Bulk_Named R x0 x1 x2 x3 sg =
  (P_r16_Bulk_Named_3h R x0 x1 x2 x3 (.int .i64 1) (.int .i64 0) sg) := evP_of [] (by kernel_rfl)
theorem eq_r16_Bulk_Named_3h (R : Orc) (t0i : Nat) (t1 : DV) (t2 : DV) (t3 : DV) (t9 : DV) (t10 : DV) (sg : List SObj) : P_r16_Bulk_Named_3h R t0i t1 t2 t3 t9 t10 sg =
  (ob (dLen t3) fun d1 =>
  ob (dBin .lss t10 d1) fun d2 =>
  oif d2
   (ob (dIdx 3 t3 t10) fun d3 =>
   ob (R.p F_r03_Size [(.agg [(proj 0 d3), (proj 1 d3), (proj 2 d3)])]) fun d4 =>
   ob (R.r F_r16_Bulk_Of [(.undef, (.ptr t0i 0)), (d4, .val)] sg) fun q5 =>
   ob (dMax t9 (q5.1.getD 0 .undef)) fun d6 =>
   ob (dBin .add t10 (.int .i64 1)) fun d7 =>
   P_r16_Bulk_Named_3h R t0i t1 t2 t3 d6 d7 q5.2)
   (ob (dLen t1) fun d8 =>
   ob (dBin .sub d8 (.int .i64 1)) fun d9 =>
   P_r16_Bulk_Named_7h R t0i t1 t2 t9 d9 sg)) := headP_of [] (by kernel_rfl)
theorem eq_r16_Bulk_Named_7h (R : Orc) (t0i : Nat) (t1 : DV) (t2 : DV) (t9 : DV) (t11 : DV) (sg : List SObj) : P_r16_Bulk_Named_7h R t0i t1 t2 t9 t11 sg =
  (ob (dBin .geq t11 (.int .i64 0)) fun d1 =>
  oif d1
   (ob (dIdx 2 t1 t11) fun d2 =>
   ob (dBin .eql (proj 0 d2) t2) fun d3 =>
   oif d3
    (ob (dIdx 2 t1 t11) fun d4 =>
    ob (dBin .mul t9 (proj 1 d4)) fun d5 =>
    ob (R.r F_r16_Bulk_Of [(.undef, (.ptr t0i 0)), (d5, .val)] sg) fun q6 =>
    some ([(q6.1.getD 0 .undef)], q6.2))
    (ob (dBin .sub t11 (.int .i64 1)) fun d7 =>
    P_r16_Bulk_Named_7h R t0i t1 t2 t9 d7 sg))
   (some ([(.int .i64 1)], sg))) := headP_of [] (by kernel_rfl)
theorem call_r16_Bulk_Named (x0 : Nat) (x1 : DV) (x2 : DV) (x3 : DV) (sg : List SObj) {q : List DV × List SObj} (h : P_r16_Bulk_Named (run cfg) x0 x1 x2 x3 sg = some q) : (run cfg).r F_r16_Bulk_Named [(.undef, (.ptr x0 0)), (x1, .val), (x2, .val), (x3, .val)] sg = some q :=
  run_raw (s := sig_r16_Bulk_Named) (fn := Tryz.f132) (c := code_r16_Bulk_Named) (by kernel_rfl) Tryz.func132 (by kernel_rfl) ((show _ = P_r16_Bulk_Named (run cfg) x0 x1 x2 x3 sg by kernel_rfl).trans h)

/-! ### check_scope_name -/
noncomputable def code_check_scope_name : Code := Tryz.f133.body.getD .skip
noncomputable def P_check_scope_name (R : Orc) (x0 : Nat) (x1 : DV) (x2 : DV) (sg : List SObj) : Option (List DV × List SObj) := evP cfg R fl_check_scope_name (retR cfg.P Tryz.f133 sig_check_scope_name) [] code_check_scope_name (initSt Tryz.f133 [(.undef, (.map x0)), (x1, .val), (x2, .val)] sg)
noncomputable def P_check_scope_name_2h (R : Orc) (t0i : Nat) (t2 : DV) (t8 : DV) (b4 : DV) (b6_0 : DV) (b6_1 : DV) (b6_2 : DV) (sg : List SObj) : Option (List DV × List SObj) := headP cfg R fl_check_scope_name (retR cfg.P Tryz.f133 sig_check_scope_name) [true, false, true, false] code_check_scope_name ⟨spread .undef 79 0 [(2, t2), (8, t8)], spread .val 79 0 [(0, (.map t0i)), (4, (.loc 4 0)), (6, (.loc 6 0))], spread none 79 0 [(4, some [((proj 0 b4), .val), ((proj 1 b4), .val), ((proj 2 b4), .val), ((proj 3 b4), .val), ((proj 4 b4), .val), ((proj 5 b4), .val), ((proj 6 b4), .val), ((proj 7 b4), .val), ((proj 8 b4), .val), ((proj 9 b4), .val), ((proj 10 b4), .val), ((proj 11 b4), .val), ((proj 12 b4), .val), ((proj 13 b4), .val), ((proj 14 b4), .val), ((proj 15 b4), .val), ((proj 16 b4), .val), ((proj 17 b4), .val), ((proj 18 b4), .val), ((proj 19 b4), .val)]), (6, some [(b6_0, .val), (b6_1, .val), (b6_2, .val)])], sg⟩
noncomputable def P_check_scope_name_14h (R : Orc) (t10 : DV) (t54 : DV) (t55 : DV) (t56 : DV) (b4 : DV) (b6_0 : DV) (b6_1 : DV) (b6_2 : DV) (b9 : DV) (sg : List SObj) : Option (List DV × List SObj) := headP cfg R fl_check_scope_name (retR cfg.P Tryz.f133 sig_check_scope_name) [true, false, true, false, false, true, false, false, true, true, true, false, true, false] code_check_scope_name ⟨spread .undef 79 0 [(10, t10), (54, t54), (55, t55), (56, t56)], spread .val 79 0 [(4, (.loc 4 0)), (6, (.loc 6 0)), (9, (.loc 9 0)), (10, .own)], spread none 79 0 [(4, some [((proj 0 b4), .val), ((proj 1 b4), .val), ((proj 2 b4), .val), ((proj 3 b4), .val), ((proj 4 b4), .val), ((proj 5 b4), .val), ((proj 6 b4), .val), ((proj 7 b4), .val), ((proj 8 b4), .val), ((proj 9 b4), .val), ((proj 10 b4), .val), ((proj 11 b4), .val), ((proj 12 b4), .val), ((proj 13 b4), .val), ((proj 14 b4), .val), ((proj 15 b4), .val), ((proj 16 b4), .val), ((proj 17 b4), .val), ((proj 18 b4), .val), ((proj 19 b4), .val)]), (6, some [(b6_0, .val), (b6_1, .val), (b6_2, .val)]), (9, some [((proj 0 b9), .val), ((proj 1 b9), .val), ((proj 2 b9), .val), ((proj 3 b9), .val), ((proj 4 b9), .val)])], sg⟩
theorem eq_check_scope_name (R : Orc) (x0 : Nat) (x1 : DV) (x2 : DV) (sg : List SObj) : P_check_scope_name R x0 x1 x2 sg =
  (og (isAggN 20 x1) <|
  ob (dLen x2) fun d1 =>
  ob (dBin .sub d1 (.int .i64 1)) fun d2 =>
  P_check_scope_name_2h R x0 x2 d2 x1 (.int .i64 0) (.int .i64 0) (.list 3 []) sg) := evP_of [] (by kernel_rfl)
theorem eq_check_scope_name_2h (R : Orc) (t0i : Nat) (t2 : DV) (t8 : DV) (b4 : DV) (b6_0 : DV) (b6_1 : DV) (b6_2 : DV) (sg : List SObj) : P_check_scope_name_2h R t0i t2 t8 b4 b6_0 b6_1 b6_2 sg =
  (ob (dBin .geq t8 (.int .i64 0)) fun d1 =>
  oif d1
   (ob (dIdx 5 t2 t8) fun d2 =>
   ob (dBin .neq (proj 0 d2) (proj 3 b4)) fun d3 =>
   oif d3
    (ob (dBin .sub t8 (.int .i64 1)) fun d4 =>
    P_check_scope_name_2h R t0i t2 d4 b4 b6_0 b6_1 b6_2 sg)
    (ob (dLen (proj 4 d2)) fun d5 =>
    ob (dLen (proj 17 b4)) fun d6 =>
    ob (dBin .neq d5 d6) fun d7 =>
    oif d7
     (some ([(.agg [(.int .i64 0), (.int .i64 0), (.list 3 [])]), (.int .i64 8)], sg))
     (ob (R.r F_check_scope_has [(.undef, (.map t0i)), ((proj 17 b4), .val)] sg) fun q8 =>
     ob (dUn .not (q8.1.getD 0 .undef)) fun d9 =>
     oif d9
      (some ([(.agg [(.int .i64 0), (.int .i64 0), (.list 3 [])]), (.int .i64 6)], q8.2))
      (ob (dLen (proj 4 d2)) fun d10 =>
      ob (dBin .eql d10 (.int .i64 0)) fun d11 =>
      oif d11
       (some ([(.agg [(proj 1 d2), (proj 2 d2), (proj 3 d2)]), (.int .i64 0)], q8.2))
       (ob (dLen (proj 4 d2)) fun d12 =>
       P_check_scope_name_14h R (.list 4 []) (proj 4 d2) d12 (.int .i64 0) b4 b6_0 b6_1 b6_2 d2 q8.2)))))
   (some ([(.agg [(.int .i64 0), (.int .i64 0), (.list 3 [])]), (.int .i64 6)], sg))) := headP_of [] (by kernel_rfl)
theorem eq_check_scope_name_14h (R : Orc) (t10 : DV) (t54 : DV) (t55 : DV) (t56 : DV) (b4 : DV) (b6_0 : DV) (b6_1 : DV) (b6_2 : DV) (b9 : DV) (sg : List SObj) : P_check_scope_name_14h R t10 t54 t55 t56 b4 b6_0 b6_1 b6_2 b9 sg =
  (ob (dBin .lss t56 t55) fun d1 =>
  oif d1
   (ob (dIdx 1 t54 t56) fun d2 =>
   og (isLeaf d2) <|
   ob (dIdx 3 (proj 17 b4) t56) fun d3 =>
   og (isCell d2) <|
   ob (dApp 4 t10 (.list 4 [(.agg [d2, (proj 0 d3), (proj 1 d3), (proj 2 d3)])])) fun d4 =>
   ob (dBin .add t56 (.int .i64 1)) fun d5 =>
   P_check_scope_name_14h R d4 t54 t55 d5 b4 b6_0 b6_1 b6_2 b9 sg)
   (ob (R.p F_scheme_Subst [(.agg [(proj 1 b9), (proj 2 b9), (proj 3 b9)]), t10]) fun d6 =>
   ob (dExt 0 d6) fun d7 =>
   ob (dExt 1 d6) fun d8 =>
   og (isAggN 3 d7) <|
   some ([(.agg [(proj 0 d7), (proj 1 d7), (proj 2 d7)]), d8], sg))) := headP_of [] (by kernel_rfl)
theorem call_check_scope_name (x0 : Nat) (x1 : DV) (x2 : DV) (sg : List SObj) {q : List DV × List SObj} (h : P_check_scope_name (run cfg) x0 x1 x2 sg = some q) : (run cfg).r F_check_scope_name [(.undef, (.map x0)), (x1, .val), (x2, .val)] sg = some q :=
  run_raw (s := sig_check_scope_name) (fn := Tryz.f133) (c := code_check_scope_name) (by kernel_rfl) Tryz.func133 (by kernel_rfl) ((show _ = P_check_scope_name (run cfg) x0 x1 x2 sg by kernel_rfl).trans h)

/-! ### check_scope_has -/
noncomputable def code_check_scope_has : Code := Tryz.f134.body.getD .skip
noncomputable def P_check_scope_has (R : Orc) (x0 : Nat) (x1 : DV) (sg : List SObj) : Option (List DV × List SObj) := evP cfg R fl_check_scope_has (retR cfg.P Tryz.f134 sig_check_scope_has) [] code_check_scope_has (initSt Tryz.f134 [(.undef, (.map x0)), (x1, .val)] sg)
noncomputable def P_check_scope_has_2h (R : Orc) (t0i : Nat) (t9 : DV) (t10 : DV) (t11 : DV) (sg : List SObj) : Option (List DV × List SObj) := headP cfg R fl_check_scope_has (retR cfg.P Tryz.f134 sig_check_scope_has) [true, false, true, false] code_check_scope_has ⟨spread .undef 28 0 [(9, t9), (10, t10), (11, t11)], spread .val 28 0 [(0, (.map t0i))], spread none 28 0 [], sg⟩
noncomputable def P_check_scope_has_5h (R : Orc) (t0i : Nat) (t9 : DV) (t10 : DV) (t11 : DV) (t16 : DV) (t17 : DV) (t18 : DV) (sg : List SObj) : Option (List DV × List SObj) := headP cfg R fl_check_scope_has (retR cfg.P Tryz.f134 sig_check_scope_has) [true, false, true, false, false, true, true, false, false, true, true, false] code_check_scope_has ⟨spread .undef 28 0 [(9, t9), (10, t10), (11, t11), (16, t16), (17, t17), (18, t18)], spread .val 28 0 [(0, (.map t0i))], spread none 28 0 [], sg⟩
theorem eq_check_scope_has (R : Orc) (x0 : Nat) (x1 : DV) (sg : List SObj) : P_check_scope_has R x0 x1 sg =
  (ob (dLen x1) fun d1 =>
  P_check_scope_has_2h R x0 x1 d1 (.int .i64 0) sg) := evP_of [] (by kernel_rfl)
theorem eq_check_scope_has_2h (R : Orc) (t0i : Nat) (t9 : DV) (t10 : DV) (t11 : DV) (sg : List SObj) : P_check_scope_has_2h R t0i t9 t10 t11 sg =
  (ob (dBin .lss t11 t10) fun d1 =>
  oif d1
   (ob (dIdx 3 t9 t11) fun d2 =>
   ob (R.p F_typ_Vars [(.agg [(proj 0 d2), (proj 1 d2), (proj 2 d2)])]) fun d3 =>
   ob (dLen d3) fun d4 =>
   P_check_scope_has_5h R t0i t9 t10 t11 d3 d4 (.int .i64 0) sg)
   (some ([(.bool true)], sg))) := headP_of [] (by kernel_rfl)
theorem eq_check_scope_has_5h (R : Orc) (t0i : Nat) (t9 : DV) (t10 : DV) (t11 : DV) (t16 : DV) (t17 : DV) (t18 : DV) (sg : List SObj) : P_check_scope_has_5h R t0i t9 t10 t11 t16 t17 t18 sg =
  (ob (dBin .lss t18 t17) fun d1 =>
  oif d1
   (ob (dIdx 1 t16 t18) fun d2 =>
   og (isLeaf d2) <|
   og (isKey false d2 && true) <|
   ob (sgMap sg t0i) fun m3 =>
   og (m3.1 == false) <|
   ob (dBin .eql ((mGet m3.2 d2).getD (.int .i64 0)) (.int .i64 0)) fun d4 =>
   oif d4
    (some ([(.bool false)], sg))
    (ob (dBin .add t18 (.int .i64 1)) fun d5 =>
    P_check_scope_has_5h R t0i t9 t10 t11 t16 t17 d5 sg))
   (ob (dBin .add t11 (.int .i64 1)) fun d6 =>
   P_check_scope_has_2h R t0i t9 t10 d6 sg)) := headP_of [] (by kernel_rfl)
theorem call_check_scope_has (x0 : Nat) (x1 : DV) (sg : List SObj) {q : List DV × List SObj} (h : P_check_scope_has (run cfg) x0 x1 sg = some q) : (run cfg).r F_check_scope_has [(.undef, (.map x0)), (x1, .val)] sg = some q :=
  run_raw (s := sig_check_scope_has) (fn := Tryz.f134) (c := code_check_scope_has) (by kernel_rfl) Tryz.func134 (by kernel_rfl) ((show _ = P_check_scope_has (run cfg) x0 x1 sg by kernel_rfl).trans h)

/-! ### check_with -/
noncomputable def code_check_with : Code := Tryz.f135.body.getD .skip
noncomputable def P_check_with (R : Orc) (x0 : DV) (x1 : DV) (sg : List SObj) : Option (List DV × List SObj) := evP cfg R fl_check_with (retR cfg.P Tryz.f135 sig_check_with) [] code_check_with (initSt Tryz.f135 [(x0, .val), (x1, .val)] sg)
theorem eq_check_with (R : Orc) (x0 : DV) (x1 : DV) (sg : List SObj) : P_check_with R x0 x1 sg =
  (ob (dLen x0) fun d1 =>
  ob (dLen x0) fun d2 =>
  ob (dSlice3 5 x0 none d1 d2) fun d3 =>
  ob (dApp 5 d3 x1) fun d4 =>
  some ([d4], sg)) := evP_of [] (by kernel_rfl)
theorem call_check_with (x0 : DV) (x1 : DV) (sg : List SObj) {q : List DV × List SObj} (h : P_check_with (run cfg) x0 x1 sg = some q) : (run cfg).r F_check_with [(x0, .val), (x1, .val)] sg = some q :=
  run_raw (s := sig_check_with) (fn := Tryz.f135) (c := code_check_with) (by kernel_rfl) Tryz.func135 (by kernel_rfl) ((show _ = P_check_with (run cfg) x0 x1 sg by kernel_rfl).trans h)

/-! ### check_fun -/
noncomputable def code_check_fun : Code := Tryz.f136.body.getD .skip
noncomputable def P_check_fun (R : Orc) (x0 : DV) (x1 : DV) : Option DV := evP cfg R fl_check_fun (retP cfg.P Tryz.f136) [] code_check_fun (initSt Tryz.f136 [(x0, .val), (x1, .val)] [])
theorem eq_check_fun (R : Orc) (x0 : DV) (x1 : DV) : P_check_fun R x0 x1 =
  (og (isAggN 3 x0) <|
  og (isAggN 3 x1) <|
  some (.agg [(.int .i64 9), (.int .i64 0), (.list 3 [(.agg [(proj 0 x0), (proj 1 x0), (proj 2 x0)]), (.agg [(proj 0 x1), (proj 1 x1), (proj 2 x1)])])])) := evP_of [] (by kernel_rfl)
theorem call_check_fun (x0 : DV) (x1 : DV) {d : DV} (h : P_check_fun (run cfg) x0 x1 = some d) : (run cfg).p F_check_fun [x0, x1] = some d :=
  run_pure (fn := Tryz.f136) (c := code_check_fun) (by kernel_rfl) Tryz.func136 (by kernel_rfl) ((show _ = P_check_fun (run cfg) x0 x1 by kernel_rfl).trans h)

/-! ### check_scope_let -/
noncomputable def code_check_scope_let : Code := Tryz.f137.body.getD .skip
noncomputable def P_check_scope_let (R : Orc) (x0 : Nat) (x1 : DV) (x2 : DV) (sg : List SObj) : Option (List DV × List SObj) := evP cfg R fl_check_scope_let (retR cfg.P Tryz.f137 sig_check_scope_let) [] code_check_scope_let (initSt Tryz.f137 [(.undef, (.map x0)), (x1, .val), (x2, .val)] sg)
theorem eq_check_scope_let (R : Orc) (x0 : Nat) (x1 : DV) (x2 : DV) (sg : List SObj) : P_check_scope_let R x0 x1 x2 sg =
  (og (isAggN 20 x1) <|
  ob (R.r F_check_scope_takes [(.undef, (.map x0)), ((proj 10 x1), .val)] sg) fun q1 =>
  ob (dUn .not (q1.1.getD 0 .undef)) fun d2 =>
  oif d2
   (some ([(.agg [(.int .i64 0), (.int .i64 0), (.list 3 [])]), (.int .i64 6)], q1.2))
   (ob (R.r F_check_scope_enter [(.undef, (.map x0)), ((proj 10 x1), .val), ((.int .i64 1), .val)] q1.2) fun q3 =>
   ob (dIdx 20 (proj 19 x1) (.int .i64 0)) fun d4 =>
   ob (R.r F_check_scope_term [(.undef, (.map x0)), ((.agg [(proj 0 d4), (proj 1 d4), (proj 2 d4), (proj 3 d4), (proj 4 d4), (proj 5 d4), (proj 6 d4), (proj 7 d4), (proj 8 d4), (proj 9 d4), (proj 10 d4), (proj 11 d4), (proj 12 d4), (proj 13 d4), (proj 14 d4), (proj 15 d4), (proj 16 d4), (proj 17 d4), (proj 18 d4), (proj 19 d4)]), .val), (x2, .val)] q3.2) fun q5 =>
   ob (dExt 0 (.tup q5.1)) fun d6 =>
   ob (dExt 1 (.tup q5.1)) fun d7 =>
   og (isAggN 3 d6) <|
   ob (R.r F_check_scope_enter [(.undef, (.map x0)), ((proj 10 x1), .val), ((.int .i64 (-1)), .val)] q5.2) fun q8 =>
   ob (dBin .neq d7 (.int .i64 0)) fun d9 =>
   oif d9
    (some ([(.agg [(.int .i64 0), (.int .i64 0), (.list 3 [])]), d7], q8.2))
    (ob (dIdx 20 (proj 19 x1) (.int .i64 1)) fun d10 =>
    og (isCell (proj 3 x1)) <|
    og (isCell (proj 10 x1)) <|
    ob (R.r F_check_with [(x2, .val), ((.list 5 [(.agg [(proj 3 x1), (proj 0 d6), (proj 1 d6), (proj 2 d6), (proj 10 x1)])]), .val)] q8.2) fun q11 =>
    ob (R.r F_check_scope_term [(.undef, (.map x0)), ((.agg [(proj 0 d10), (proj 1 d10), (proj 2 d10), (proj 3 d10), (proj 4 d10), (proj 5 d10), (proj 6 d10), (proj 7 d10), (proj 8 d10), (proj 9 d10), (proj 10 d10), (proj 11 d10), (proj 12 d10), (proj 13 d10), (proj 14 d10), (proj 15 d10), (proj 16 d10), (proj 17 d10), (proj 18 d10), (proj 19 d10)]), .val), ((q11.1.getD 0 .undef), .val)] q11.2) fun q12 =>
    ob (dExt 0 (.tup q12.1)) fun d13 =>
    ob (dExt 1 (.tup q12.1)) fun d14 =>
    og (isAggN 3 d13) <|
    some ([(.agg [(proj 0 d13), (proj 1 d13), (proj 2 d13)]), d14], q12.2)))) := evP_of [] (by kernel_rfl)
theorem call_check_scope_let (x0 : Nat) (x1 : DV) (x2 : DV) (sg : List SObj) {q : List DV × List SObj} (h : P_check_scope_let (run cfg) x0 x1 x2 sg = some q) : (run cfg).r F_check_scope_let [(.undef, (.map x0)), (x1, .val), (x2, .val)] sg = some q :=
  run_raw (s := sig_check_scope_let) (fn := Tryz.f137) (c := code_check_scope_let) (by kernel_rfl) Tryz.func137 (by kernel_rfl) ((show _ = P_check_scope_let (run cfg) x0 x1 x2 sg by kernel_rfl).trans h)

/-! ### check_scope_rec -/
noncomputable def code_check_scope_rec : Code := Tryz.f138.body.getD .skip
noncomputable def P_check_scope_rec (R : Orc) (x0 : Nat) (x1 : DV) (x2 : DV) (sg : List SObj) : Option (List DV × List SObj) := evP cfg R fl_check_scope_rec (retR cfg.P Tryz.f138 sig_check_scope_rec) [] code_check_scope_rec (initSt Tryz.f138 [(.undef, (.map x0)), (x1, .val), (x2, .val)] sg)
noncomputable def P_check_scope_rec_10 (R : Orc) (t0i : Nat) (t2 : DV) (t11 : DV) (b4 : DV) (b6_0 : DV) (b6_1 : DV) (b6_2 : DV) (b9_0 : DV) (b9_1 : DV) (b9_2 : DV) (b9_3 : DV) (b9_4 : DV) (b10_0 : DV) (b10_1 : DV) (b10_2 : DV) (sg : List SObj) : Option (List DV × List SObj) := evP cfg R fl_check_scope_rec (retR cfg.P Tryz.f138 sig_check_scope_rec) [true, true, true, true, true, true, true, true] code_check_scope_rec ⟨spread .undef 87 0 [(2, t2), (11, t11)], spread .val 87 0 [(0, (.map t0i)), (4, (.loc 4 0)), (6, (.loc 6 0)), (9, (.loc 9 0)), (10, (.loc 10 0))], spread none 87 0 [(4, some [((proj 0 b4), .val), ((proj 1 b4), .val), ((proj 2 b4), .val), ((proj 3 b4), .val), ((proj 4 b4), .val), ((proj 5 b4), .val), ((proj 6 b4), .val), ((proj 7 b4), .val), ((proj 8 b4), .val), ((proj 9 b4), .val), ((proj 10 b4), .val), ((proj 11 b4), .val), ((proj 12 b4), .val), ((proj 13 b4), .val), ((proj 14 b4), .val), ((proj 15 b4), .val), ((proj 16 b4), .val), ((proj 17 b4), .val), ((proj 18 b4), .val), ((proj 19 b4), .val)]), (6, some [(b6_0, .val), (b6_1, .val), (b6_2, .val)]), (9, some [(b9_0, .val), (b9_1, .val), (b9_2, .val), (b9_3, .val), (b9_4, .val)]), (10, some [(b10_0, .val), (b10_1, .val), (b10_2, .val)])], sg⟩
theorem eq_check_scope_rec (R : Orc) (x0 : Nat) (x1 : DV) (x2 : DV) (sg : List SObj) : P_check_scope_rec R x0 x1 x2 sg =
  (og (isAggN 20 x1) <|
  ob (R.r F_check_scope_takes [(.undef, (.map x0)), ((proj 10 x1), .val)] sg) fun q1 =>
  ob (dUn .not (q1.1.getD 0 .undef)) fun d2 =>
  oif d2
   (some ([(.agg [(.int .i64 0), (.int .i64 0), (.list 3 [])]), (.int .i64 6)], q1.2))
   (ob (R.r F_check_scope_enter [(.undef, (.map x0)), ((proj 10 x1), .val), ((.int .i64 1), .val)] q1.2) fun q3 =>
   ob (R.r F_check_scope_has [(.undef, (.map x0)), ((.list 3 [(.agg [(proj 11 x1), (proj 12 x1), (proj 13 x1)]), (.agg [(proj 14 x1), (proj 15 x1), (proj 16 x1)])]), .val)] q3.2) fun q4 =>
   ob (R.p F_check_fun [(.agg [(proj 11 x1), (proj 12 x1), (proj 13 x1)]), (.agg [(proj 14 x1), (proj 15 x1), (proj 16 x1)])]) fun d5 =>
   og (isCell (proj 3 x1)) <|
   og (isAggN 3 d5) <|
   oif (q4.1.getD 0 .undef)
    (ob (dIdx 20 (proj 19 x1) (.int .i64 0)) fun d6 =>
    og (isCell (proj 4 x1)) <|
    ob (R.r F_check_with [(x2, .val), ((.list 5 [(.agg [(proj 3 x1), (proj 0 d5), (proj 1 d5), (proj 2 d5), (.list 1 [])]), (.agg [(proj 4 x1), (proj 11 x1), (proj 12 x1), (proj 13 x1), (.list 1 [])])]), .val)] q4.2) fun q7 =>
    ob (R.r F_check_scope_term [(.undef, (.map x0)), ((.agg [(proj 0 d6), (proj 1 d6), (proj 2 d6), (proj 3 d6), (proj 4 d6), (proj 5 d6), (proj 6 d6), (proj 7 d6), (proj 8 d6), (proj 9 d6), (proj 10 d6), (proj 11 d6), (proj 12 d6), (proj 13 d6), (proj 14 d6), (proj 15 d6), (proj 16 d6), (proj 17 d6), (proj 18 d6), (proj 19 d6)]), .val), ((q7.1.getD 0 .undef), .val)] q7.2) fun q8 =>
    ob (dExt 0 (.tup q8.1)) fun d9 =>
    ob (dExt 1 (.tup q8.1)) fun d10 =>
    og (isAggN 3 d9) <|
    P_check_scope_rec_10 R x0 x2 d10 x1 (.int .i64 0) (.int .i64 0) (.list 3 []) (proj 3 x1) (proj 0 d5) (proj 1 d5) (proj 2 d5) (.list 1 []) (proj 0 d9) (proj 1 d9) (proj 2 d9) q8.2)
    (P_check_scope_rec_10 R x0 x2 (.int .i64 6) x1 (.int .i64 0) (.int .i64 0) (.list 3 []) (proj 3 x1) (proj 0 d5) (proj 1 d5) (proj 2 d5) (.list 1 []) (.int .i64 0) (.int .i64 0) (.list 3 []) q4.2))) := evP_of [10] (by kernel_rfl)
theorem eq_check_scope_rec_10 (R : Orc) (t0i : Nat) (t2 : DV) (t11 : DV) (b4 : DV) (b6_0 : DV) (b6_1 : DV) (b6_2 : DV) (b9_0 : DV) (b9_1 : DV) (b9_2 : DV) (b9_3 : DV) (b9_4 : DV) (b10_0 : DV) (b10_1 : DV) (b10_2 : DV) (sg : List SObj) : P_check_scope_rec_10 R t0i t2 t11 b4 b6_0 b6_1 b6_2 b9_0 b9_1 b9_2 b9_3 b9_4 b10_0 b10_1 b10_2 sg =
  (ob (R.r F_check_scope_enter [(.undef, (.map t0i)), ((proj 10 b4), .val), ((.int .i64 (-1)), .val)] sg) fun q1 =>
  ob (dBin .neq t11 (.int .i64 0)) fun d2 =>
  oif d2
   (some ([(.agg [(.int .i64 0), (.int .i64 0), (.list 3 [])]), t11], q1.2))
   (ob (R.p F_typ_Same [(.agg [b10_0, b10_1, b10_2]), (.agg [(proj 14 b4), (proj 15 b4), (proj 16 b4)])]) fun d3 =>
   ob (dUn .not d3) fun d4 =>
   oif d4
    (some ([(.agg [(.int .i64 0), (.int .i64 0), (.list 3 [])]), (.int .i64 4)], q1.2))
    (og (isCell (proj 10 b4)) <|
    ob (dIdx 20 (proj 19 b4) (.int .i64 1)) fun d5 =>
    ob (R.r F_check_with [(t2, .val), ((.list 5 [(.agg [b9_0, b9_1, b9_2, b9_3, (proj 10 b4)])]), .val)] q1.2) fun q6 =>
    ob (R.r F_check_scope_term [(.undef, (.map t0i)), ((.agg [(proj 0 d5), (proj 1 d5), (proj 2 d5), (proj 3 d5), (proj 4 d5), (proj 5 d5), (proj 6 d5), (proj 7 d5), (proj 8 d5), (proj 9 d5), (proj 10 d5), (proj 11 d5), (proj 12 d5), (proj 13 d5), (proj 14 d5), (proj 15 d5), (proj 16 d5), (proj 17 d5), (proj 18 d5), (proj 19 d5)]), .val), ((q6.1.getD 0 .undef), .val)] q6.2) fun q7 =>
    ob (dExt 0 (.tup q7.1)) fun d8 =>
    ob (dExt 1 (.tup q7.1)) fun d9 =>
    og (isAggN 3 d8) <|
    some ([(.agg [(proj 0 d8), (proj 1 d8), (proj 2 d8)]), d9], q7.2)))) := evP_of [10] (by kernel_rfl)
theorem call_check_scope_rec (x0 : Nat) (x1 : DV) (x2 : DV) (sg : List SObj) {q : List DV × List SObj} (h : P_check_scope_rec (run cfg) x0 x1 x2 sg = some q) : (run cfg).r F_check_scope_rec [(.undef, (.map x0)), (x1, .val), (x2, .val)] sg = some q :=
  run_raw (s := sig_check_scope_rec) (fn := Tryz.f138) (c := code_check_scope_rec) (by kernel_rfl) Tryz.func138 (by kernel_rfl) ((show _ = P_check_scope_rec (run cfg) x0 x1 x2 sg by kernel_rfl).trans h)

/-! ### check_scope_match -/
noncomputable def code_check_scope_match : Code := Tryz.f139.body.getD .skip
noncomputable def P_check_scope_match (R : Orc) (x0 : Nat) (x1 : DV) (x2 : DV) (sg : List SObj) : Option (List DV × List SObj) := evP cfg R fl_check_scope_match (retR cfg.P Tryz.f139 sig_check_scope_match) [] code_check_scope_match (initSt Tryz.f139 [(.undef, (.map x0)), (x1, .val), (x2, .val)] sg)
noncomputable def P_check_scope_match_6h (R : Orc) (t0i : Nat) (t2 : DV) (t34 : DV) (t35 : DV) (t36 : DV) (b4 : DV) (b6_0 : DV) (b6_1 : DV) (b6_2 : DV) (b8 : DV) (b10_0 : DV) (b10_1 : DV) (b10_2 : DV) (sg : List SObj) : Option (List DV × List SObj) := headP cfg R fl_check_scope_match (retR cfg.P Tryz.f139 sig_check_scope_match) [true, true, true, true, false, true, false] code_check_scope_match ⟨spread .undef 97 0 [(2, t2), (34, t34), (35, t35), (36, t36)], spread .val 97 0 [(0, (.map t0i)), (4, (.loc 4 0)), (6, (.loc 6 0)), (8, (.loc 8 0)), (10, (.loc 10 0))], spread none 97 0 [(4, some [((proj 0 b4), .val), ((proj 1 b4), .val), ((proj 2 b4), .val), ((proj 3 b4), .val), ((proj 4 b4), .val), ((proj 5 b4), .val), ((proj 6 b4), .val), ((proj 7 b4), .val), ((proj 8 b4), .val), ((proj 9 b4), .val), ((proj 10 b4), .val), ((proj 11 b4), .val), ((proj 12 b4), .val), ((proj 13 b4), .val), ((proj 14 b4), .val), ((proj 15 b4), .val), ((proj 16 b4), .val), ((proj 17 b4), .val), ((proj 18 b4), .val), ((proj 19 b4), .val)]), (6, some [(b6_0, .val), (b6_1, .val), (b6_2, .val)]), (8, some [((proj 0 b8), .val), ((proj 1 b8), .val), ((proj 2 b8), .val)]), (10, some [(b10_0, .val), (b10_1, .val), (b10_2, .val)])], sg⟩
noncomputable def P_check_scope_match_13h (R : Orc) (t0i : Nat) (t2 : DV) (t11 : DV) (t15 : DV) (t34 : DV) (t35 : DV) (t36 : DV) (t53 : DV) (t54 : DV) (t55 : DV) (b4 : DV) (b6_0 : DV) (b6_1 : DV) (b6_2 : DV) (b8 : DV) (b10_0 : DV) (b10_1 : DV) (b10_2 : DV) (sg : List SObj) : Option (List DV × List SObj) := headP cfg R fl_check_scope_match (retR cfg.P Tryz.f139 sig_check_scope_match) [true, true, true, true, false, true, false, false, true, true, false, false, true, true, true, true, false, true, false] code_check_scope_match ⟨spread .undef 97 0 [(2, t2), (11, t11), (15, t15), (34, t34), (35, t35), (36, t36), (53, t53), (54, t54), (55, t55)], spread .val 97 0 [(0, (.map t0i)), (4, (.loc 4 0)), (6, (.loc 6 0)), (8, (.loc 8 0)), (10, (.loc 10 0)), (15, .own)], spread none 97 0 [(4, some [((proj 0 b4), .val), ((proj 1 b4), .val), ((proj 2 b4), .val), ((proj 3 b4), .val), ((proj 4 b4), .val), ((proj 5 b4), .val), ((proj 6 b4), .val), ((proj 7 b4), .val), ((proj 8 b4), .val), ((proj 9 b4), .val), ((proj 10 b4), .val), ((proj 11 b4), .val), ((proj 12 b4), .val), ((proj 13 b4), .val), ((proj 14 b4), .val), ((proj 15 b4), .val), ((proj 16 b4), .val), ((proj 17 b4), .val), ((proj 18 b4), .val), ((proj 19 b4), .val)]), (6, some [(b6_0, .val), (b6_1, .val), (b6_2, .val)]), (8, some [((proj 0 b8), .val), ((proj 1 b8), .val), ((proj 2 b8), .val)]), (10, some [(b10_0, .val), (b10_1, .val), (b10_2, .val)])], sg⟩
theorem eq_check_scope_match (R : Orc) (x0 : Nat) (x1 : DV) (x2 : DV) (sg : List SObj) : P_check_scope_match R x0 x1 x2 sg =
  (og (isAggN 20 x1) <|
  ob (dIdx 20 (proj 19 x1) (.int .i64 0)) fun d1 =>
  ob (R.r F_check_scope_term [(.undef, (.map x0)), ((.agg [(proj 0 d1), (proj 1 d1), (proj 2 d1), (proj 3 d1), (proj 4 d1), (proj 5 d1), (proj 6 d1), (proj 7 d1), (proj 8 d1), (proj 9 d1), (proj 10 d1), (proj 11 d1), (proj 12 d1), (proj 13 d1), (proj 14 d1), (proj 15 d1), (proj 16 d1), (proj 17 d1), (proj 18 d1), (proj 19 d1)]), .val), (x2, .val)] sg) fun q2 =>
  ob (dExt 0 (.tup q2.1)) fun d3 =>
  ob (dExt 1 (.tup q2.1)) fun d4 =>
  og (isAggN 3 d3) <|
  ob (dBin .neq d4 (.int .i64 0)) fun d5 =>
  oif d5
   (some ([(.agg [(.int .i64 0), (.int .i64 0), (.list 3 [])]), d4], q2.2))
   (ob (dLen (proj 18 x1)) fun d6 =>
   P_check_scope_match_6h R x0 x2 (proj 18 x1) d6 (.int .i64 0) x1 (.int .i64 0) (.int .i64 0) (.list 3 []) d3 (.int .i64 0) (.int .i64 0) (.list 3 []) q2.2)) := evP_of [] (by kernel_rfl)
theorem eq_check_scope_match_6h (R : Orc) (t0i : Nat) (t2 : DV) (t34 : DV) (t35 : DV) (t36 : DV) (b4 : DV) (b6_0 : DV) (b6_1 : DV) (b6_2 : DV) (b8 : DV) (b10_0 : DV) (b10_1 : DV) (b10_2 : DV) (sg : List SObj) : P_check_scope_match_6h R t0i t2 t34 t35 t36 b4 b6_0 b6_1 b6_2 b8 b10_0 b10_1 b10_2 sg =
  (ob (dBin .lss t36 t35) fun d1 =>
  oif d1
   (ob (dIdx 7 t34 t36) fun d2 =>
   ob (R.p F_pats_Bind [(.agg [(proj 0 d2), (proj 1 d2), (proj 2 d2), (proj 3 d2), (proj 4 d2), (proj 5 d2), (proj 6 d2)]), (.agg [(proj 0 b8), (proj 1 b8), (proj 2 b8)])]) fun d3 =>
   ob (dExt 0 d3) fun d4 =>
   ob (dExt 1 d3) fun d5 =>
   ob (dBin .neq d5 (.int .i64 0)) fun d6 =>
   oif d6
    (some ([(.agg [(.int .i64 0), (.int .i64 0), (.list 3 [])]), d5], sg))
    (ob (R.r F_check_with [(t2, .val), ((.list 5 []), .val)] sg) fun q7 =>
    ob (dLen d4) fun d8 =>
    P_check_scope_match_13h R t0i t2 t36 (q7.1.getD 0 .undef) t34 t35 t36 d4 d8 (.int .i64 0) b4 b6_0 b6_1 b6_2 b8 b10_0 b10_1 b10_2 q7.2))
   (some ([(.agg [b10_0, b10_1, b10_2]), (.int .i64 0)], sg))) := headP_of [] (by kernel_rfl)
theorem eq_check_scope_match_13h (R : Orc) (t0i : Nat) (t2 : DV) (t11 : DV) (t15 : DV) (t34 : DV) (t35 : DV) (t36 : DV) (t53 : DV) (t54 : DV) (t55 : DV) (b4 : DV) (b6_0 : DV) (b6_1 : DV) (b6_2 : DV) (b8 : DV) (b10_0 : DV) (b10_1 : DV) (b10_2 : DV) (sg : List SObj) : P_check_scope_match_13h R t0i t2 t11 t15 t34 t35 t36 t53 t54 t55 b4 b6_0 b6_1 b6_2 b8 b10_0 b10_1 b10_2 sg =
  (ob (dBin .lss t55 t54) fun d1 =>
  oif d1
   (ob (dIdx 4 t53 t55) fun d2 =>
   og (isCell (proj 0 d2)) <|
   ob (dApp 5 t15 (.list 5 [(.agg [(proj 0 d2), (proj 1 d2), (proj 2 d2), (proj 3 d2), (.list 1 [])])])) fun d3 =>
   ob (dBin .add t55 (.int .i64 1)) fun d4 =>
   P_check_scope_match_13h R t0i t2 t11 d3 t34 t35 t36 t53 t54 d4 b4 b6_0 b6_1 b6_2 b8 b10_0 b10_1 b10_2 sg)
   (ob (dBin .add t11 (.int .i64 1)) fun d5 =>
   ob (dIdx 20 (proj 19 b4) d5) fun d6 =>
   ob (R.r F_check_scope_term [(.undef, (.map t0i)), ((.agg [(proj 0 d6), (proj 1 d6), (proj 2 d6), (proj 3 d6), (proj 4 d6), (proj 5 d6), (proj 6 d6), (proj 7 d6), (proj 8 d6), (proj 9 d6), (proj 10 d6), (proj 11 d6), (proj 12 d6), (proj 13 d6), (proj 14 d6), (proj 15 d6), (proj 16 d6), (proj 17 d6), (proj 18 d6), (proj 19 d6)]), .val), (t15, .val)] sg) fun q7 =>
   ob (dExt 0 (.tup q7.1)) fun d8 =>
   ob (dExt 1 (.tup q7.1)) fun d9 =>
   og (isAggN 3 d8) <|
   ob (dBin .neq d9 (.int .i64 0)) fun d10 =>
   oif d10
    (some ([(.agg [(.int .i64 0), (.int .i64 0), (.list 3 [])]), d9], q7.2))
    (ob (dBin .eql t11 (.int .i64 0)) fun d11 =>
    oif d11
     (ob (dBin .add t36 (.int .i64 1)) fun d12 =>
     P_check_scope_match_6h R t0i t2 t34 t35 d12 b4 b6_0 b6_1 b6_2 b8 (proj 0 d8) (proj 1 d8) (proj 2 d8) q7.2)
     (ob (R.p F_typ_Same [(.agg [(proj 0 d8), (proj 1 d8), (proj 2 d8)]), (.agg [b10_0, b10_1, b10_2])]) fun d13 =>
     ob (dUn .not d13) fun d14 =>
     oif d14
      (some ([(.agg [(.int .i64 0), (.int .i64 0), (.list 3 [])]), (.int .i64 4)], q7.2))
      (ob (dBin .add t36 (.int .i64 1)) fun d15 =>
      P_check_scope_match_6h R t0i t2 t34 t35 d15 b4 b6_0 b6_1 b6_2 b8 b10_0 b10_1 b10_2 q7.2))))) := headP_of [] (by kernel_rfl)
theorem call_check_scope_match (x0 : Nat) (x1 : DV) (x2 : DV) (sg : List SObj) {q : List DV × List SObj} (h : P_check_scope_match (run cfg) x0 x1 x2 sg = some q) : (run cfg).r F_check_scope_match [(.undef, (.map x0)), (x1, .val), (x2, .val)] sg = some q :=
  run_raw (s := sig_check_scope_match) (fn := Tryz.f139) (c := code_check_scope_match) (by kernel_rfl) Tryz.func139 (by kernel_rfl) ((show _ = P_check_scope_match (run cfg) x0 x1 x2 sg by kernel_rfl).trans h)

end Go.Su
