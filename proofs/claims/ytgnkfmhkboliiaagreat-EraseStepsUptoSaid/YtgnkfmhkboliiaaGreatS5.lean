/-
  Parts of the proof, merged: G3, G4, G5, G6, G7, G8, G9, T0, QT30, T30, QT31, T31, QT32, T32, QT33.
-/
import Derived.Test.YtgnkfmhkboliiaaGreatS3
import Derived.Test.YtgnkfmhkboliiaaGreatS4
set_option linter.unusedVariables false
set_option linter.unusedSimpArgs false
/-
 Equations of the program's functions: by program.
-/
namespace Go.Su
open Go.Proofs
set_option linter.unusedVariables false
noncomputable def P_keep_Int (R : Orc) (x0 x1 : DV) : Option DV := eP Tryz.f28 fl_keep_Int R [] (initSt Tryz.f28 [(x0, .val), (x1, .val)] [])
theorem eq_keep_Int (R : Orc) (x0 x1 : DV) : P_keep_Int R x0 x1 =
 (ob (dBin .lss x1 (.int .i64 1)) fun d1 =>
 oif d1
  (some (.int .i64 0))
  (ob (dConv .u64 x0) fun d2 =>
  ob (dConv .u64 x1) fun d3 =>
  ob (dBin .rem d2 d3) fun d4 =>
  ob (dConv .i64 d4) fun d5 =>
  some d5)) := evP_of [] (by kernel_rfl)
theorem call_keep_Int (x0 x1 : DV) {d : DV} (h : P_keep_Int (run cfg) x0 x1 = some d) : (run cfg).p F_keep_Int [x0, x1] = some d := callE Tryz.func28 (by kernel_rfl) (by kernel_rfl) (by kernel_rfl) h
noncomputable def P_r05_Free (R : Orc) (x0 : DV) : Option DV := eP Tryz.f29 fl_r05_Free R [] (initSt Tryz.f29 [(x0, .val)] [])
theorem eq_r05_Free (R : Orc) (x0 : DV) : P_r05_Free R x0 =
 (og (isAggN 16 x0) <|
 ob (R.p F_r05_free [(ag16 x0), (.list 1 []), (.list 1 [])]) fun d1 =>
 some d1) := evP_of [] (by kernel_rfl)
theorem call_r05_Free (x0 : DV) {d : DV} (h : P_r05_Free (run cfg) x0 = some d) : (run cfg).p F_r05_Free [x0] = some d := callE Tryz.func29 (by kernel_rfl) (by kernel_rfl) (by kernel_rfl) h
noncomputable def P_l05_count (R : Orc) (x0 x1 : DV) : Option DV := eP Tryz.f40 fl_l05_count R [] (initSt Tryz.f40 [(x0, .val), (x1, .val)] [])
noncomputable def P_l05_count_5h (R : Orc) (t1 t5 b2 : DV) : Option DV := hP Tryz.f40 fl_l05_count R [true, true, true, true, false, true, false] (mst 70 [(1, t1), (5, t5)] [(2, (.loc 2 0))] [(2, some (bxs b2 0 16))] [])
noncomputable def P_l05_count_8 (R : Orc) (t1 b2 : DV) : Option DV := eP Tryz.f40 fl_l05_count R [true, true, true, true, true] (mst 70 [(1, t1)] [(2, (.loc 2 0))] [(2, some (bxs b2 0 16))] [])
noncomputable def P_l05_count_9h (R : Orc) (t1 t6 b2 : DV) : Option DV := hP Tryz.f40 fl_l05_count R [true, true, true, true, true, false, true, false] (mst 70 [(1, t1), (6, t6)] [(2, (.loc 2 0))] [(2, some (bxs b2 0 16))] [])
noncomputable def P_l05_count_12 (R : Orc) (t1 b2 : DV) : Option DV := eP Tryz.f40 fl_l05_count R [true, true, true, true, true, true] (mst 70 [(1, t1)] [(2, (.loc 2 0))] [(2, some (bxs b2 0 16))] [])
theorem eq_l05_count (R : Orc) (x0 x1 : DV) : P_l05_count R x0 x1 =
 (og (isAggN 16 x0) <|
 ob (dBin .add x1 (.int .i64 1)) fun d1 =>
 ob (R.p F_l05_countType [(.agg [(proj 8 x0), (proj 9 x0), (proj 10 x0)]), d1]) fun d2 =>
 ob (R.p F_l05_countType [(.agg [(proj 11 x0), (proj 12 x0), (proj 13 x0)]), d2]) fun d3 =>
 P_l05_count_5h R d3 (.int .i64 0) x0) := evP_of [8, 12] (by kernel_rfl)
theorem eq_l05_count_5h (R : Orc) (t1 t5 b2 : DV) : P_l05_count_5h R t1 t5 b2 =
 (ob (dLen (proj 14 b2)) fun d1 =>
 ob (dBin .lss t5 d1) fun d2 =>
 ogd d2
  (ob (dBin .leq t1 (.int .i64 400)) fun d3 =>
  oif d3
   (ob (dIdx 7 (proj 14 b2) t5) fun d4 =>
   ob (R.p F_l05_countPat [(ag7 d4), t1]) fun d5 =>
   ob (dBin .add t5 (.int .i64 1)) fun d6 =>
   P_l05_count_5h R d5 d6 b2)
   (P_l05_count_8 R t1 b2))
  (P_l05_count_8 R t1 b2)
  none) := headP_of [8, 12] (by kernel_rfl)
theorem eq_l05_count_8 (R : Orc) (t1 b2 : DV) : P_l05_count_8 R t1 b2 =
 (P_l05_count_9h R t1 (.int .i64 0) b2) := evP_of [8, 12] (by kernel_rfl)
theorem eq_l05_count_9h (R : Orc) (t1 t6 b2 : DV) : P_l05_count_9h R t1 t6 b2 =
 (ob (dLen (proj 15 b2)) fun d1 =>
 ob (dBin .lss t6 d1) fun d2 =>
 ogd d2
  (ob (dBin .leq t1 (.int .i64 400)) fun d3 =>
  oif d3
   (ob (dIdx 16 (proj 15 b2) t6) fun d4 =>
   ob (R.p F_l05_count [(ag16 d4), t1]) fun d5 =>
   ob (dBin .add t6 (.int .i64 1)) fun d6 =>
   P_l05_count_9h R d5 d6 b2)
   (P_l05_count_12 R t1 b2))
  (P_l05_count_12 R t1 b2)
  none) := headP_of [8, 12] (by kernel_rfl)
theorem eq_l05_count_12 (R : Orc) (t1 b2 : DV) : P_l05_count_12 R t1 b2 =
 (ob (dLenS (proj 6 b2)) fun d1 =>
 ob (dBin .gtr d1 (.int .i64 300)) fun d2 =>
 ogd d2
  (some (.int .i64 401))
  (ob (dLenS (proj 3 b2)) fun d3 =>
  ob (dBin .gtr d3 (.int .i64 300)) fun d4 =>
  ogd d4
   (some (.int .i64 401))
   (ob (dLenS (proj 4 b2)) fun d5 =>
   ob (dBin .gtr d5 (.int .i64 300)) fun d6 =>
   oif d6
    (some (.int .i64 401))
    (some t1))
   none)
  none) := evP_of [8, 12] (by kernel_rfl)
theorem call_l05_count (x0 x1 : DV) {d : DV} (h : P_l05_count (run cfg) x0 x1 = some d) : (run cfg).p F_l05_count [x0, x1] = some d := callE Tryz.func40 (by kernel_rfl) (by kernel_rfl) (by kernel_rfl) h
noncomputable def P_r23_countExpr (R : Orc) (x0 x1 : DV) : Option DV := eP Tryz.f41 fl_r23_countExpr R [] (initSt Tryz.f41 [(x0, .val), (x1, .val)] [])
noncomputable def P_r23_countExpr_3h (R : Orc) (t1 t5 b2 : DV) : Option DV := hP Tryz.f41 fl_r23_countExpr R [true, true, false, true, false] (mst 27 [(1, t1), (5, t5)] [(2, (.loc 2 0))] [(2, some (bxs b2 0 16))] [])
theorem eq_r23_countExpr (R : Orc) (x0 x1 : DV) : P_r23_countExpr R x0 x1 =
 (og (isAggN 16 x0) <|
 ob (dBin .add x1 (.int .i64 1)) fun d1 =>
 P_r23_countExpr_3h R d1 (.int .i64 0) x0) := evP_of [] (by kernel_rfl)
theorem eq_r23_countExpr_3h (R : Orc) (t1 t5 b2 : DV) : P_r23_countExpr_3h R t1 t5 b2 =
 (ob (dLen (proj 15 b2)) fun d1 =>
 ob (dBin .lss t5 d1) fun d2 =>
 ogd d2
  (ob (dBin .leq t1 (.int .i64 1200)) fun d3 =>
  oif d3
   (ob (dIdx 16 (proj 15 b2) t5) fun d4 =>
   ob (R.p F_r23_countExpr [(ag16 d4), t1]) fun d5 =>
   ob (dBin .add t5 (.int .i64 1)) fun d6 =>
   P_r23_countExpr_3h R d5 d6 b2)
   (some t1))
  (some t1)
  none) := headP_of [] (by kernel_rfl)
theorem call_r23_countExpr (x0 x1 : DV) {d : DV} (h : P_r23_countExpr (run cfg) x0 x1 = some d) : (run cfg).p F_r23_countExpr [x0, x1] = some d := callE Tryz.func41 (by kernel_rfl) (by kernel_rfl) (by kernel_rfl) h
noncomputable def P_r23_Plain (R : Orc) (x0 : DV) : Option DV := eP Tryz.f42 fl_r23_Plain R [] (initSt Tryz.f42 [(x0, .val)] [])
noncomputable def P_r23_Plain_11 (R : Orc) (b1 : DV) : Option DV := eP Tryz.f42 fl_r23_Plain R [true, false, true, false, true, true, true, false] (mst 27 [] [(1, (.loc 1 0))] [(1, some (bxs b1 0 16))] [])
theorem eq_r23_Plain (R : Orc) (x0 : DV) : P_r23_Plain R x0 =
 (og (isAggN 16 x0) <|
 ob (dBin .eql (proj 0 x0) (.int .i64 2)) fun d1 =>
 oif d1
  (some (.bool true))
  (ob (dBin .eql (proj 0 x0) (.int .i64 3)) fun d2 =>
  oif d2
   (some (.bool true))
   (ob (dBin .eql (proj 0 x0) (.int .i64 4)) fun d3 =>
   oif d3
    (some (.bool true))
    (ob (dBin .eql (proj 0 x0) (.int .i64 5)) fun d4 =>
    oif d4
     (some (.bool true))
     (ob (dBin .eql (proj 0 x0) (.int .i64 7)) fun d5 =>
     oif d5
      (some (.bool true))
      (ob (dBin .eql (proj 0 x0) (.int .i64 9)) fun d6 =>
      oif d6
       (some (.bool true))
       (ob (dBin .eql (proj 0 x0) (.int .i64 6)) fun d7 =>
       oif d7
        (P_r23_Plain_11 R x0)
        (ob (dBin .eql (proj 0 x0) (.int .i64 8)) fun d8 =>
        oif d8
         (P_r23_Plain_11 R x0)
         (some (.bool false)))))))))) := evP_of [11] (by kernel_rfl)
theorem eq_r23_Plain_11 (R : Orc) (b1 : DV) : P_r23_Plain_11 R b1 =
 (ob (dIdx 16 (proj 15 b1) (.int .i64 0)) fun d1 =>
 ob (R.p F_r23_Plain [(ag16 d1)]) fun d2 =>
 ogd d2
  (ob (dIdx 16 (proj 15 b1) (.int .i64 1)) fun d3 =>
  ob (R.p F_r23_Plain [(ag16 d3)]) fun d4 =>
  some d4)
  (some (.bool false))
  none) := evP_of [11] (by kernel_rfl)
theorem call_r23_Plain (x0 : DV) {d : DV} (h : P_r23_Plain (run cfg) x0 = some d) : (run cfg).p F_r23_Plain [x0] = some d := callE Tryz.func42 (by kernel_rfl) (by kernel_rfl) (by kernel_rfl) h
noncomputable def P_r23_stepPlain (R : Orc) (x0 : DV) : Option DV := eP Tryz.f43 fl_r23_stepPlain R [] (initSt Tryz.f43 [(x0, .val)] [])
noncomputable def P_r23_stepPlain_17 (R : Orc) (t47 b1 : DV) : Option DV := eP Tryz.f43 fl_r23_stepPlain R [true, true, true, false, true, false, true, true, true, true] (mst 222 [(47, t47)] [(1, (.loc 1 0)), (2, (.loc 2 0)), (3, (.loc 3 0)), (4, (.loc 4 0))] [(1, some (bxs b1 0 16)), (2, some zb1), (3, some zb0), (4, some zb0)] [])
noncomputable def P_r23_stepPlain_21 (R : Orc) (b1 b9_0 b9_1 b9_2 b9_3 b9_4 b9_5 b9_6 b9_7 b9_8 b9_9 b9_10 b9_11 b9_12 b9_13 b9_14 b9_15 : DV) : Option DV := eP Tryz.f43 fl_r23_stepPlain R [true, true, true, false, true, false, true, true, true, true, true, false, true, true] (mst 222 [] [(1, (.loc 1 0)), (2, (.loc 2 0)), (3, (.loc 3 0)), (4, (.loc 4 0)), (9, (.loc 9 0))] [(1, some (bxs b1 0 16)), (2, some zb1), (3, some zb0), (4, some zb0), (9, some [(b9_0, .val), (b9_1, .val), (b9_2, .val), (b9_3, .val), (b9_4, .val), (b9_5, .val), (b9_6, .val), (b9_7, .val), (b9_8, .val), (b9_9, .val), (b9_10, .val), (b9_11, .val), (b9_12, .val), (b9_13, .val), (b9_14, .val), (b9_15, .val)])] [])
noncomputable def P_r23_stepPlain_31h (R : Orc) (b1 : DV) : Option DV := hP Tryz.f43 fl_r23_stepPlain R [true, true, true, false, true, false, true, true, true, true, true, true, true, true, true, true, true, true, true, false, false, true, false] (mst 222 [(10, (.int .i64 0))] [(1, (.loc 1 0)), (2, (.loc 2 0)), (3, (.loc 3 0)), (4, (.loc 4 0))] [(1, some (bxs b1 0 16)), (2, some zb1), (3, some zb0), (4, some zb0)] [])
noncomputable def P_r23_stepPlain_31hb (R : Orc) (t10 b1 : DV) (sg : List SObj) : Option DV := hP Tryz.f43 fl_r23_stepPlain R [true, true, true, false, true, false, true, true, true, true, true, true, true, true, true, true, true, true, true, false, false, true, false] (mst 222 [(10, t10)] [(1, (.loc 1 0)), (2, (.loc 2 0)), (3, (.loc 3 0)), (4, (.loc 4 0))] [(1, some (bxs b1 0 16)), (2, some zb1), (3, some zb0), (4, some zb0)] sg)
noncomputable def P_r23_stepPlain_37h (R : Orc) (t11 t14 b13 : DV) (sg : List SObj) : Option DV := hP Tryz.f43 fl_r23_stepPlain R [true, true, true, false, true, false, true, true, true, true, true, true, true, true, true, true, true, true, true, false, false, true, false, false, true, false, false, true, true, true, false, true, false] (mst 222 [(11, t11), (14, t14)] [(2, (.loc 2 0)), (3, (.loc 3 0)), (4, (.loc 4 0)), (13, (.loc 13 0))] [(2, some zb1), (3, some zb0), (4, some zb0), (13, some (bxs b13 0 16))] sg)
set_option maxRecDepth 100000 in
theorem eq_r23_stepPlain (R : Orc) (x0 : DV) : P_r23_stepPlain R x0 =
 (og (isAggN 16 x0) <|
 ob (R.p F_r23_duePlain [(ag16 x0)]) fun d1 =>
 ob (dBin .geq d1 (.int .i64 0)) fun d2 =>
 oif d2
  (ob (dIdx 16 (proj 15 x0) d1) fun d3 =>
  ob (R.p F_r23_stepPlain [(ag16 d3)]) fun d4 =>
  ob (dExt 0 d4) fun d5 =>
  ob (dExt 1 d4) fun d6 =>
  og (isAggN 16 d5) <|
  og (isAggN 15 d6) <|
  ob (dBin .neq (proj 0 d6) (.int .i64 0)) fun d7 =>
  oif d7
   (some (.tup [(.agg [(.int .i64 0), (.int .i64 0), (.int .i64 0), (.str ⟨#[]⟩), (.str ⟨#[]⟩), (.int .i64 0), (.str ⟨#[]⟩), (.int .i64 0), (.int .i64 0), (.int .i64 0), (.list 3 []), (.int .i64 0), (.int .i64 0), (.list 3 []), (.list 7 []), (.list 16 [])]), (ag15 d6)]))
   (ob (dApp2 16 (.list 16 []) (proj 15 x0)) fun p8 =>
   ob (arrIdx 0 (p8.1.length + p8.2.length) d1) fun n9 =>
   ob (openSet (16, p8.1, p8.2) n9 (ag16 d5)) fun x10 =>
   ob (sgOpn [x10] 0) fun q11 =>
   ob (closeObj q11 16 (p8.1.length + p8.2.length)) fun d12 =>
   some (.tup [(.agg [(proj 0 x0), (proj 1 x0), (proj 2 x0), (proj 3 x0), (proj 4 x0), (proj 5 x0), (proj 6 x0), (proj 7 x0), (proj 8 x0), (proj 9 x0), (proj 10 x0), (proj 11 x0), (proj 12 x0), (proj 13 x0), (proj 14 x0), d12]), (.agg [(.int .i64 0), (.int .i64 0), (.int .i64 0), (.str ⟨#[]⟩), (.int .i64 0), (.int .i64 0), (.int .i64 0), (.bool false), (.list 5 []), (.list 9 []), (.int .i64 0), (.bool false), (.int .i64 0), (.int .i64 0), (.int .i64 0)])])))
  (ob (dBin .eql (proj 0 x0) (.int .i64 10)) fun d13 =>
  oif d13
   (ob (dIdx 16 (proj 15 x0) (.int .i64 0)) fun d14 =>
   ob (dBin .eql (proj 0 d14) (.int .i64 9)) fun d15 =>
   oif d15
    (ob (dIdx 16 (proj 15 x0) (.int .i64 0)) fun d16 =>
    ob (dIdx 16 (proj 15 d16) (.int .i64 0)) fun d17 =>
    ob (dIdx 16 (proj 15 x0) (.int .i64 0)) fun d18 =>
    ob (dIdx 16 (proj 15 x0) (.int .i64 1)) fun d19 =>
    ob (R.p F_r23_replaced [(ag16 d17), (proj 3 d18), (ag16 d19)]) fun d20 =>
    og (isAggN 16 d20) <|
    some (.tup [(ag16 d20), (.agg [(.int .i64 0), (.int .i64 0), (.int .i64 0), (.str ⟨#[]⟩), (.int .i64 0), (.int .i64 0), (.int .i64 0), (.bool false), (.list 5 []), (.list 9 []), (.int .i64 0), (.bool false), (.int .i64 0), (.int .i64 0), (.int .i64 0)])]))
    (ob (R.p F_r23_stop []) fun d21 =>
    og (isAggN 15 d21) <|
    some (.tup [(.agg [(.int .i64 0), (.int .i64 0), (.int .i64 0), (.str ⟨#[]⟩), (.str ⟨#[]⟩), (.int .i64 0), (.str ⟨#[]⟩), (.int .i64 0), (.int .i64 0), (.int .i64 0), (.list 3 []), (.int .i64 0), (.int .i64 0), (.list 3 []), (.list 7 []), (.list 16 [])]), (ag15 d21)])))
   (ob (dBin .eql (proj 0 x0) (.int .i64 11)) fun d22 =>
   oif d22
    (ob (dIdx 16 (proj 15 x0) (.int .i64 1)) fun d23 =>
    ob (dIdx 16 (proj 15 x0) (.int .i64 0)) fun d24 =>
    ob (R.p F_r23_replaced [(ag16 d23), (proj 3 x0), (ag16 d24)]) fun d25 =>
    og (isAggN 16 d25) <|
    some (.tup [(ag16 d25), (.agg [(.int .i64 0), (.int .i64 0), (.int .i64 0), (.str ⟨#[]⟩), (.int .i64 0), (.int .i64 0), (.int .i64 0), (.bool false), (.list 5 []), (.list 9 []), (.int .i64 0), (.bool false), (.int .i64 0), (.int .i64 0), (.int .i64 0)])]))
    (P_r23_stepPlain_17 R (proj 0 x0) x0)))) := evP_of [17, 21] (by kernel_rfl)
set_option maxRecDepth 100000 in
theorem eq_r23_stepPlain_17 (R : Orc) (t47 b1 : DV) : P_r23_stepPlain_17 R t47 b1 =
 (ob (dBin .eql t47 (.int .i64 12)) fun d1 =>
 oif d1
  (ob (dIdx 16 (proj 15 b1) (.int .i64 0)) fun d2 =>
  ob (dIdx 16 (proj 15 b1) (.int .i64 0)) fun d3 =>
  og (isCell (proj 3 b1)) <|
  og (isCell (proj 4 b1)) <|
  ob (dBin .eql (proj 3 b1) (proj 4 b1)) fun d4 =>
  oif d4
   (ob (dIdx 16 (proj 15 b1) (.int .i64 0)) fun d5 =>
   P_r23_stepPlain_21 R b1 (proj 0 d5) (proj 1 d5) (proj 2 d5) (proj 3 d5) (proj 4 d5) (proj 5 d5) (proj 6 d5) (proj 7 d5) (proj 8 d5) (proj 9 d5) (proj 10 d5) (proj 11 d5) (proj 12 d5) (proj 13 d5) (proj 14 d5) (proj 15 d5))
   (P_r23_stepPlain_21 R b1 (.int .i64 12) (.int .i64 0) (.int .i64 0) (proj 3 b1) (proj 4 b1) (.int .i64 0) (.str ⟨#[]⟩) (.int .i64 0) (.int .i64 0) (.int .i64 0) (.list 3 []) (.int .i64 0) (.int .i64 0) (.list 3 []) (.list 7 []) (.list 16 [(ag16 d2), (ag16 d3)])))
  (ob (dBin .eql t47 (.int .i64 13)) fun d6 =>
  oif d6
   (ob (dIdx 16 (proj 15 b1) (.int .i64 0)) fun d7 =>
   ob (dBin .eql (proj 0 d7) (.int .i64 3)) fun d8 =>
   oif d8
    (ob (dIdx 16 (proj 15 b1) (.int .i64 0)) fun d9 =>
    ob (dBin .sub (.int .i64 2) (proj 5 d9)) fun d10 =>
    ob (dIdx 16 (proj 15 b1) d10) fun d11 =>
    some (.tup [(ag16 d11), (.agg [(.int .i64 0), (.int .i64 0), (.int .i64 0), (.str ⟨#[]⟩), (.int .i64 0), (.int .i64 0), (.int .i64 0), (.bool false), (.list 5 []), (.list 9 []), (.int .i64 0), (.bool false), (.int .i64 0), (.int .i64 0), (.int .i64 0)])]))
    (ob (R.p F_r23_stop []) fun d12 =>
    og (isAggN 15 d12) <|
    some (.tup [(.agg [(.int .i64 0), (.int .i64 0), (.int .i64 0), (.str ⟨#[]⟩), (.str ⟨#[]⟩), (.int .i64 0), (.str ⟨#[]⟩), (.int .i64 0), (.int .i64 0), (.int .i64 0), (.list 3 []), (.int .i64 0), (.int .i64 0), (.list 3 []), (.list 7 []), (.list 16 [])]), (ag15 d12)])))
   (ob (dBin .eql t47 (.int .i64 16)) fun d13 =>
   oif d13
    (ob (dIdx 16 (proj 15 b1) (.int .i64 0)) fun d14 =>
    ob (dIdx 16 (proj 15 b1) (.int .i64 1)) fun d15 =>
    ob (R.p F_r23_operatePlain [(ag16 b1), (ag16 d14), (ag16 d15)]) fun d16 =>
    ob (dExt 0 d16) fun d17 =>
    ob (dExt 1 d16) fun d18 =>
    og (isAggN 16 d17) <|
    og (isAggN 15 d18) <|
    some (.tup [(ag16 d17), (ag15 d18)]))
    (ob (dBin .eql t47 (.int .i64 15)) fun d19 =>
    oif d19
     (ob (dIdx 16 (proj 15 b1) (.int .i64 0)) fun d20 =>
     some (.tup [(ag16 d20), (.agg [(.int .i64 0), (.int .i64 0), (.int .i64 0), (.str ⟨#[]⟩), (.int .i64 0), (.int .i64 0), (.int .i64 0), (.bool false), (.list 5 []), (.list 9 []), (.int .i64 0), (.bool false), (.int .i64 0), (.int .i64 0), (.int .i64 0)])]))
     (ob (dBin .eql t47 (.int .i64 14)) fun d21 =>
     oif d21
      (P_r23_stepPlain_31h R b1)
      (ob (R.p F_r23_stop []) fun d22 =>
      og (isAggN 15 d22) <|
      some (.tup [(.agg [(.int .i64 0), (.int .i64 0), (.int .i64 0), (.str ⟨#[]⟩), (.str ⟨#[]⟩), (.int .i64 0), (.str ⟨#[]⟩), (.int .i64 0), (.int .i64 0), (.int .i64 0), (.list 3 []), (.int .i64 0), (.int .i64 0), (.list 3 []), (.list 7 []), (.list 16 [])]), (ag15 d22)]))))))) := evP_of [17, 21] (by kernel_rfl)
theorem eq_r23_stepPlain_21 (R : Orc) (b1 b9_0 b9_1 b9_2 b9_3 b9_4 b9_5 b9_6 b9_7 b9_8 b9_9 b9_10 b9_11 b9_12 b9_13 b9_14 b9_15 : DV) : P_r23_stepPlain_21 R b1 b9_0 b9_1 b9_2 b9_3 b9_4 b9_5 b9_6 b9_7 b9_8 b9_9 b9_10 b9_11 b9_12 b9_13 b9_14 b9_15 =
 (ob (dIdx 16 (proj 15 b1) (.int .i64 1)) fun d1 =>
 og (isCell (proj 4 b1)) <|
 ob (R.p F_r23_replaced [(ag16 d1), (proj 3 b1), (.agg [(.int .i64 9), (.int .i64 0), (.int .i64 0), (proj 4 b1), (.str ⟨#[]⟩), (.int .i64 0), (.str ⟨#[]⟩), (.int .i64 0), (.int .i64 0), (.int .i64 0), (.list 3 []), (.int .i64 0), (.int .i64 0), (.list 3 []), (.list 7 []), (.list 16 [(.agg [b9_0, b9_1, b9_2, b9_3, b9_4, b9_5, b9_6, b9_7, b9_8, b9_9, b9_10, b9_11, b9_12, b9_13, b9_14, b9_15])])])]) fun d2 =>
 og (isAggN 16 d2) <|
 some (.tup [(ag16 d2), (.agg [(.int .i64 0), (.int .i64 0), (.int .i64 0), (.str ⟨#[]⟩), (.int .i64 0), (.int .i64 0), (.int .i64 0), (.bool false), (.list 5 []), (.list 9 []), (.int .i64 0), (.bool false), (.int .i64 0), (.int .i64 0), (.int .i64 0)])])) := evP_of [17, 21] (by kernel_rfl)
theorem eq_r23_stepPlain_31h (R : Orc) (b1 : DV) : P_r23_stepPlain_31h R b1 =
 (ob (dLen (proj 14 b1)) fun d1 =>
 ob (dBin .lss (.int .i64 0) d1) fun d2 =>
 oif d2
  (ob (dIdx 7 (proj 14 b1) (.int .i64 0)) fun d3 =>
  ob (dIdx 16 (proj 15 b1) (.int .i64 0)) fun d4 =>
  ob (R.r F_r23_fitsPlain [((ag7 d3), .val), ((ag16 d4), .val), ((.list 17 []), .own)] []) fun q5 =>
  ob (dExt 0 (.tup q5.1)) fun d6 =>
  ob (dExt 1 (.tup q5.1)) fun d7 =>
  ob (dUn .not d7) fun d8 =>
  oif d8
   (ob (dBin .add (.int .i64 0) (.int .i64 1)) fun d9 =>
   P_r23_stepPlain_31hb R d9 b1 q5.2)
   (ob (dBin .add (.int .i64 0) (.int .i64 1)) fun d10 =>
   ob (dIdx 16 (proj 15 b1) d10) fun d11 =>
   P_r23_stepPlain_37h R d6 (.int .i64 0) d11 q5.2))
  (some (.tup [(.agg [(.int .i64 0), (.int .i64 0), (.int .i64 0), (.str ⟨#[]⟩), (.str ⟨#[]⟩), (.int .i64 0), (.str ⟨#[]⟩), (.int .i64 0), (.int .i64 0), (.int .i64 0), (.list 3 []), (.int .i64 0), (.int .i64 0), (.list 3 []), (.list 7 []), (.list 16 [])]), (.agg [(.int .i64 4), (.int .i64 0), (.int .i64 0), (.str ⟨#[]⟩), (.int .i64 0), (.int .i64 0), (.int .i64 0), (.bool false), (.list 5 []), (.list 9 []), (.int .i64 0), (.bool false), (proj 1 b1), (proj 2 b1), (.int .i64 0)])]))) := headP_of [17, 21] (by kernel_rfl)
theorem eq_r23_stepPlain_31hb (R : Orc) (t10 b1 : DV) (sg : List SObj) : P_r23_stepPlain_31hb R t10 b1 sg =
 (ob (dLen (proj 14 b1)) fun d1 =>
 ob (dBin .lss t10 d1) fun d2 =>
 oif d2
  (ob (dIdx 7 (proj 14 b1) t10) fun d3 =>
  ob (dIdx 16 (proj 15 b1) (.int .i64 0)) fun d4 =>
  ob (R.r F_r23_fitsPlain [((ag7 d3), .val), ((ag16 d4), .val), ((.list 17 []), .own)] sg) fun q5 =>
  ob (dExt 0 (.tup q5.1)) fun d6 =>
  ob (dExt 1 (.tup q5.1)) fun d7 =>
  ob (dUn .not d7) fun d8 =>
  oif d8
   (ob (dBin .add t10 (.int .i64 1)) fun d9 =>
   P_r23_stepPlain_31hb R d9 b1 q5.2)
   (ob (dBin .add t10 (.int .i64 1)) fun d10 =>
   ob (dIdx 16 (proj 15 b1) d10) fun d11 =>
   P_r23_stepPlain_37h R d6 (.int .i64 0) d11 q5.2))
  (some (.tup [(.agg [(.int .i64 0), (.int .i64 0), (.int .i64 0), (.str ⟨#[]⟩), (.str ⟨#[]⟩), (.int .i64 0), (.str ⟨#[]⟩), (.int .i64 0), (.int .i64 0), (.int .i64 0), (.list 3 []), (.int .i64 0), (.int .i64 0), (.list 3 []), (.list 7 []), (.list 16 [])]), (.agg [(.int .i64 4), (.int .i64 0), (.int .i64 0), (.str ⟨#[]⟩), (.int .i64 0), (.int .i64 0), (.int .i64 0), (.bool false), (.list 5 []), (.list 9 []), (.int .i64 0), (.bool false), (proj 1 b1), (proj 2 b1), (.int .i64 0)])]))) := headP_of [17, 21] (by kernel_rfl)
theorem eq_r23_stepPlain_37h (R : Orc) (t11 t14 b13 : DV) (sg : List SObj) : P_r23_stepPlain_37h R t11 t14 b13 sg =
 (ob (dLen t11) fun d1 =>
 ob (dBin .lss t14 d1) fun d2 =>
 oif d2
  (ob (dIdx 17 t11 t14) fun d3 =>
  ob (dIdx 17 t11 t14) fun d4 =>
  ob (R.p F_r23_replaced [(ag16 b13), (proj 0 d3), (.agg [(proj 1 d4), (proj 2 d4), (proj 3 d4), (proj 4 d4), (proj 5 d4), (proj 6 d4), (proj 7 d4), (proj 8 d4), (proj 9 d4), (proj 10 d4), (proj 11 d4), (proj 12 d4), (proj 13 d4), (proj 14 d4), (proj 15 d4), (proj 16 d4)])]) fun d5 =>
  og (isAggN 16 d5) <|
  ob (dBin .add t14 (.int .i64 1)) fun d6 =>
  P_r23_stepPlain_37h R t11 d6 d5 sg)
  (some (.tup [(ag16 b13), (.agg [(.int .i64 0), (.int .i64 0), (.int .i64 0), (.str ⟨#[]⟩), (.int .i64 0), (.int .i64 0), (.int .i64 0), (.bool false), (.list 5 []), (.list 9 []), (.int .i64 0), (.bool false), (.int .i64 0), (.int .i64 0), (.int .i64 0)])]))) := headP_of [17, 21] (by kernel_rfl)
theorem call_r23_stepPlain (x0 : DV) {d : DV} (h : P_r23_stepPlain (run cfg) x0 = some d) : (run cfg).p F_r23_stepPlain [x0] = some d := callE Tryz.func43 (by kernel_rfl) (by kernel_rfl) (by kernel_rfl) h
noncomputable def P_erase_closed (R : Orc) (x0 : DV) : Option DV := eP Tryz.f46 fl_erase_closed R [] (initSt Tryz.f46 [(x0, .val)] [])
theorem eq_erase_closed (R : Orc) (x0 : DV) : P_erase_closed R x0 =
 (og (isAggN 16 x0) <|
 ob (R.p F_tree_Check [(ag16 x0)]) fun d1 =>
 ob (dBin .eql d1 (.int .i64 0)) fun d2 =>
 ogd d2
  (ob (R.p F_tree_Free [(ag16 x0)]) fun d3 =>
  ob (dLen d3) fun d4 =>
  ob (dBin .eql d4 (.int .i64 0)) fun d5 =>
  some d5)
  (some (.bool false))
  none) := evP_of [] (by kernel_rfl)
theorem call_erase_closed (x0 : DV) {d : DV} (h : P_erase_closed (run cfg) x0 = some d) : (run cfg).p F_erase_closed [x0] = some d := callE Tryz.func46 (by kernel_rfl) (by kernel_rfl) (by kernel_rfl) h
noncomputable def P_erase_stuck (R : Orc) : Option DV := eP Tryz.f47 fl_erase_stuck R [] (initSt Tryz.f47 [] [])
theorem eq_erase_stuck (R : Orc) : P_erase_stuck R =
 (some (.tup [(.agg [(.int .i64 0), (.int .i64 0), (.int .i64 0), (.str ⟨#[]⟩), (.str ⟨#[]⟩), (.int .i64 0), (.str ⟨#[]⟩), (.int .i64 0), (.int .i64 0), (.int .i64 0), (.list 3 []), (.int .i64 0), (.int .i64 0), (.list 3 []), (.list 7 []), (.list 16 [])]), (.agg [(.int .i64 6), (.int .i64 0), (.int .i64 0), (.str ⟨#[]⟩), (.int .i64 0), (.int .i64 0), (.int .i64 0), (.bool false), (.list 5 []), (.list 9 []), (.int .i64 0), (.bool false), (.int .i64 0), (.int .i64 0), (.int .i64 0)])])) := evP_of [] (by kernel_rfl)
theorem call_erase_stuck {d : DV} (h : P_erase_stuck (run cfg) = some d) : (run cfg).p F_erase_stuck [] = some d := callE Tryz.func47 (by kernel_rfl) (by kernel_rfl) (by kernel_rfl) h
noncomputable def P_erase_value (R : Orc) (x0 : DV) : Option DV := eP Tryz.f48 fl_erase_value R [] (initSt Tryz.f48 [(x0, .val)] [])
noncomputable def P_erase_value_11 (R : Orc) (b1 : DV) : Option DV := eP Tryz.f48 fl_erase_value R [true, false, true, false, true, true, true, false] (mst 27 [] [(1, (.loc 1 0))] [(1, some (bxs b1 0 16))] [])
theorem eq_erase_value (R : Orc) (x0 : DV) : P_erase_value R x0 =
 (og (isAggN 16 x0) <|
 ob (dBin .eql (proj 0 x0) (.int .i64 2)) fun d1 =>
 oif d1
  (some (.bool true))
  (ob (dBin .eql (proj 0 x0) (.int .i64 3)) fun d2 =>
  oif d2
   (some (.bool true))
   (ob (dBin .eql (proj 0 x0) (.int .i64 4)) fun d3 =>
   oif d3
    (some (.bool true))
    (ob (dBin .eql (proj 0 x0) (.int .i64 5)) fun d4 =>
    oif d4
     (some (.bool true))
     (ob (dBin .eql (proj 0 x0) (.int .i64 7)) fun d5 =>
     oif d5
      (some (.bool true))
      (ob (dBin .eql (proj 0 x0) (.int .i64 9)) fun d6 =>
      oif d6
       (some (.bool true))
       (ob (dBin .eql (proj 0 x0) (.int .i64 6)) fun d7 =>
       oif d7
        (P_erase_value_11 R x0)
        (ob (dBin .eql (proj 0 x0) (.int .i64 8)) fun d8 =>
        oif d8
         (P_erase_value_11 R x0)
         (some (.bool false)))))))))) := evP_of [11] (by kernel_rfl)
theorem eq_erase_value_11 (R : Orc) (b1 : DV) : P_erase_value_11 R b1 =
 (ob (dIdx 16 (proj 15 b1) (.int .i64 0)) fun d1 =>
 ob (R.p F_erase_value [(ag16 d1)]) fun d2 =>
 ogd d2
  (ob (dIdx 16 (proj 15 b1) (.int .i64 1)) fun d3 =>
  ob (R.p F_erase_value [(ag16 d3)]) fun d4 =>
  some d4)
  (some (.bool false))
  none) := evP_of [11] (by kernel_rfl)
theorem call_erase_value (x0 : DV) {d : DV} (h : P_erase_value (run cfg) x0 = some d) : (run cfg).p F_erase_value [x0] = some d := callE Tryz.func48 (by kernel_rfl) (by kernel_rfl) (by kernel_rfl) h
end Go.Su

/-
 Equations of the program's functions: by program.
-/
namespace Go.Su
open Go.Proofs
set_option linter.unusedVariables false
noncomputable def P_erase_step (R : Orc) (x0 : DV) : Option DV := eP Tryz.f49 fl_erase_step R [] (initSt Tryz.f49 [(x0, .val)] [])
noncomputable def P_erase_step_2h (R : Orc) (t11 t12 b1 : DV) : Option DV := hP Tryz.f49 fl_erase_step R [true, false, true, false] (mst 143 [(11, t11), (12, t12)] [(1, (.loc 1 0)), (2, (.loc 2 0)), (3, (.loc 3 0))] [(1, some (bxs b1 0 16)), (2, some zb1), (3, some zb0)] [])
noncomputable def P_erase_step_31 (R : Orc) : Option DV := eP Tryz.f49 fl_erase_step R [true, true, true] (mst 143 [] [(2, (.loc 2 0)), (3, (.loc 3 0))] [(2, some zb1), (3, some zb0)] [])
theorem eq_erase_step (R : Orc) (x0 : DV) : P_erase_step R x0 =
 (og (isAggN 16 x0) <|
 ob (R.p F_erase_many [(proj 0 x0)]) fun d1 =>
 P_erase_step_2h R d1 (.int .i64 0) x0) := evP_of [31] (by kernel_rfl)
set_option maxRecDepth 100000 in
theorem eq_erase_step_2h (R : Orc) (t11 t12 b1 : DV) : P_erase_step_2h R t11 t12 b1 =
 (ob (dBin .lss t12 t11) fun d1 =>
 oif d1
  (ob (dIdx 16 (proj 15 b1) t12) fun d2 =>
  ob (R.p F_erase_value [(ag16 d2)]) fun d3 =>
  oif d3
   (ob (dBin .add t12 (.int .i64 1)) fun d4 =>
   P_erase_step_2h R t11 d4 b1)
   (ob (dIdx 16 (proj 15 b1) t12) fun d5 =>
   ob (R.p F_erase_step [(ag16 d5)]) fun d6 =>
   ob (dExt 0 d6) fun d7 =>
   ob (dExt 1 d6) fun d8 =>
   og (isAggN 16 d7) <|
   og (isAggN 15 d8) <|
   ob (dBin .neq (proj 0 d8) (.int .i64 0)) fun d9 =>
   oif d9
    (some (.tup [(.agg [(.int .i64 0), (.int .i64 0), (.int .i64 0), (.str ⟨#[]⟩), (.str ⟨#[]⟩), (.int .i64 0), (.str ⟨#[]⟩), (.int .i64 0), (.int .i64 0), (.int .i64 0), (.list 3 []), (.int .i64 0), (.int .i64 0), (.list 3 []), (.list 7 []), (.list 16 [])]), (ag15 d8)]))
    (ob (dList (proj 15 b1)) fun p10 =>
    og (true && p10.1 == 16 && decide (p10.2.length ≤ lim)) <|
    ob (arrIdx 0 p10.2.length t12) fun n11 =>
    ob (p10.2[n11]?) fun u12 =>
    retL [ob (sealCells [.arr 16 (p10.2.set n11 (ag16 d7))] [((proj 0 b1), .val), ((proj 1 b1), .val), ((proj 2 b1), .val), ((proj 3 b1), .val), ((proj 4 b1), .val), ((proj 5 b1), .val), ((proj 6 b1), .val), ((proj 7 b1), .val), ((proj 8 b1), .val), ((proj 9 b1), .val), ((proj 10 b1), .val), ((proj 11 b1), .val), ((proj 12 b1), .val), ((proj 13 b1), .val), ((proj 14 b1), .val), (.undef, (.arr 0 16 0 p10.2.length))]) fun ds => some (.agg ds), ob (sealCells [.arr 16 (p10.2.set n11 (ag16 d7))] [((.int .i64 0), .val), ((.int .i64 0), .val), ((.int .i64 0), .val), ((.str ⟨#[]⟩), .val), ((.int .i64 0), .val), ((.int .i64 0), .val), ((.int .i64 0), .val), ((.bool false), .val), ((.list 5 []), .full), ((.list 9 []), .full), ((.int .i64 0), .val), ((.bool false), .val), ((.int .i64 0), .val), ((.int .i64 0), .val), ((.int .i64 0), .val)]) fun ds => some (.agg ds)])))
  (ob (dBin .eql (proj 0 b1) (.int .i64 10)) fun d13 =>
  oif d13
   (ob (dIdx 16 (proj 15 b1) (.int .i64 0)) fun d14 =>
   ob (dBin .eql (proj 0 d14) (.int .i64 9)) fun d15 =>
   oif d15
    (ob (dIdx 16 (proj 15 d14) (.int .i64 0)) fun d16 =>
    ob (dIdx 16 (proj 15 b1) (.int .i64 1)) fun d17 =>
    ob (R.p F_erase_put [(ag16 d16), (proj 3 d14), (ag16 d17)]) fun d18 =>
    og (isAggN 16 d18) <|
    some (.tup [(ag16 d18), (.agg [(.int .i64 0), (.int .i64 0), (.int .i64 0), (.str ⟨#[]⟩), (.int .i64 0), (.int .i64 0), (.int .i64 0), (.bool false), (.list 5 []), (.list 9 []), (.int .i64 0), (.bool false), (.int .i64 0), (.int .i64 0), (.int .i64 0)])]))
    (P_erase_step_31 R))
   (ob (dBin .eql (proj 0 b1) (.int .i64 11)) fun d19 =>
   oif d19
    (ob (dIdx 16 (proj 15 b1) (.int .i64 1)) fun d20 =>
    ob (dIdx 16 (proj 15 b1) (.int .i64 0)) fun d21 =>
    ob (R.p F_erase_put [(ag16 d20), (proj 3 b1), (ag16 d21)]) fun d22 =>
    og (isAggN 16 d22) <|
    some (.tup [(ag16 d22), (.agg [(.int .i64 0), (.int .i64 0), (.int .i64 0), (.str ⟨#[]⟩), (.int .i64 0), (.int .i64 0), (.int .i64 0), (.bool false), (.list 5 []), (.list 9 []), (.int .i64 0), (.bool false), (.int .i64 0), (.int .i64 0), (.int .i64 0)])]))
    (ob (dBin .eql (proj 0 b1) (.int .i64 12)) fun d23 =>
    oif d23
     (ob (dIdx 16 (proj 15 b1) (.int .i64 1)) fun d24 =>
     ob (R.p F_erase_rec [(ag16 b1)]) fun d25 =>
     ob (R.p F_erase_put [(ag16 d24), (proj 3 b1), d25]) fun d26 =>
     og (isAggN 16 d26) <|
     some (.tup [(ag16 d26), (.agg [(.int .i64 0), (.int .i64 0), (.int .i64 0), (.str ⟨#[]⟩), (.int .i64 0), (.int .i64 0), (.int .i64 0), (.bool false), (.list 5 []), (.list 9 []), (.int .i64 0), (.bool false), (.int .i64 0), (.int .i64 0), (.int .i64 0)])]))
     (ob (dBin .eql (proj 0 b1) (.int .i64 13)) fun d27 =>
     oif d27
      (ob (dIdx 16 (proj 15 b1) (.int .i64 0)) fun d28 =>
      ob (dBin .eql (proj 0 d28) (.int .i64 3)) fun d29 =>
      oif d29
       (ob (dBin .sub (.int .i64 2) (proj 5 d28)) fun d30 =>
       ob (dIdx 16 (proj 15 b1) d30) fun d31 =>
       some (.tup [(ag16 d31), (.agg [(.int .i64 0), (.int .i64 0), (.int .i64 0), (.str ⟨#[]⟩), (.int .i64 0), (.int .i64 0), (.int .i64 0), (.bool false), (.list 5 []), (.list 9 []), (.int .i64 0), (.bool false), (.int .i64 0), (.int .i64 0), (.int .i64 0)])]))
       (P_erase_step_31 R))
      (ob (dBin .eql (proj 0 b1) (.int .i64 16)) fun d32 =>
      oif d32
       (ob (dIdx 16 (proj 15 b1) (.int .i64 0)) fun d33 =>
       ob (dIdx 16 (proj 15 b1) (.int .i64 1)) fun d34 =>
       ob (R.p F_erase_operate [(ag16 b1), (ag16 d33), (ag16 d34)]) fun d35 =>
       ob (dExt 0 d35) fun d36 =>
       ob (dExt 1 d35) fun d37 =>
       og (isAggN 16 d36) <|
       og (isAggN 15 d37) <|
       some (.tup [(ag16 d36), (ag15 d37)]))
       (ob (dBin .eql (proj 0 b1) (.int .i64 14)) fun d38 =>
       oif d38
        (ob (R.p F_erase_match [(ag16 b1)]) fun d39 =>
        ob (dExt 0 d39) fun d40 =>
        ob (dExt 1 d39) fun d41 =>
        og (isAggN 16 d40) <|
        og (isAggN 15 d41) <|
        some (.tup [(ag16 d40), (ag15 d41)]))
        (ob (dBin .eql (proj 0 b1) (.int .i64 15)) fun d42 =>
        oif d42
         (ob (dIdx 16 (proj 15 b1) (.int .i64 0)) fun d43 =>
         some (.tup [(ag16 d43), (.agg [(.int .i64 0), (.int .i64 0), (.int .i64 0), (.str ⟨#[]⟩), (.int .i64 0), (.int .i64 0), (.int .i64 0), (.bool false), (.list 5 []), (.list 9 []), (.int .i64 0), (.bool false), (.int .i64 0), (.int .i64 0), (.int .i64 0)])]))
         (P_erase_step_31 R))))))))) := headP_of [31] (by kernel_rfl)
theorem eq_erase_step_31 (R : Orc) : P_erase_step_31 R =
 (ob (R.p F_erase_stuck []) fun d1 =>
 ob (dExt 0 d1) fun d2 =>
 ob (dExt 1 d1) fun d3 =>
 og (isAggN 16 d2) <|
 og (isAggN 15 d3) <|
 some (.tup [(ag16 d2), (ag15 d3)])) := evP_of [31] (by kernel_rfl)
theorem call_erase_step (x0 : DV) {d : DV} (h : P_erase_step (run cfg) x0 = some d) : (run cfg).p F_erase_step [x0] = some d := callE Tryz.func49 (by kernel_rfl) (by kernel_rfl) (by kernel_rfl) h
noncomputable def P_r23_stop (R : Orc) : Option DV := eP Tryz.f51 fl_r23_stop R [] (initSt Tryz.f51 [] [])
theorem eq_r23_stop (R : Orc) : P_r23_stop R =
 (some (.agg [(.int .i64 6), (.int .i64 0), (.int .i64 0), (.str ⟨#[]⟩), (.int .i64 0), (.int .i64 0), (.int .i64 0), (.bool false), (.list 5 []), (.list 9 []), (.int .i64 0), (.bool false), (.int .i64 0), (.int .i64 0), (.int .i64 0)])) := evP_of [] (by kernel_rfl)
theorem call_r23_stop {d : DV} (h : P_r23_stop (run cfg) = some d) : (run cfg).p F_r23_stop [] = some d := callE Tryz.func51 (by kernel_rfl) (by kernel_rfl) (by kernel_rfl) h
noncomputable def P_erase_told (R : Orc) (x0 : DV) : Option DV := eP Tryz.f52 fl_erase_told R [] (initSt Tryz.f52 [(x0, .val)] [])
noncomputable def P_erase_told_16 (R : Orc) (b1 b4_1 b4_2 : DV) : Option DV := eP Tryz.f52 fl_erase_told R [true, true, false, true, false, true, false] (mst 62 [(5, (.int .i64 1))] [(1, (.loc 1 0)), (2, (.loc 2 0)), (4, (.loc 4 0))] [(1, some (bxs b1 0 16)), (2, some zb2), (4, some [((.int .i64 0), .val), (b4_1, .val), (b4_2, .val), ((.int .i64 0), .val), ((.int .i64 0), .val), ((.int .i64 0), .val), ((.bool false), .val), ((.list 5 []), .val), ((.list 9 []), .val)])] [])
noncomputable def P_erase_told_7h (R : Orc) (t5 t23 t24 t25 b4_0 b4_1 b4_2 b4_8 : DV) : Option DV := hP Tryz.f52 fl_erase_told R [true, true, false, true, false, true, true, true, true, true, true, true, true, true, false] (mst 62 [(5, t5), (23, t23), (24, t24), (25, t25)] [(2, (.loc 2 0)), (4, (.loc 4 0))] [(2, some zb2), (4, some [(b4_0, .val), (b4_1, .val), (b4_2, .val), ((.int .i64 0), .val), ((.int .i64 0), .val), ((.int .i64 0), .val), ((.bool false), .val), ((.list 5 []), .own), (b4_8, .own)])] [])
theorem eq_erase_told (R : Orc) (x0 : DV) : P_erase_told R x0 =
 (og (isAggN 16 x0) <|
 og (isCell (proj 5 x0)) <|
 og (isCell (proj 6 x0)) <|
 ob (dBin .eql (proj 0 x0) (.int .i64 2)) fun d1 =>
 oif d1
  (P_erase_told_16 R x0 (proj 5 x0) (proj 6 x0))
  (ob (dBin .eql (proj 0 x0) (.int .i64 3)) fun d2 =>
  oif d2
   (P_erase_told_16 R x0 (proj 5 x0) (proj 6 x0))
   (ob (dBin .eql (proj 0 x0) (.int .i64 4)) fun d3 =>
   oif d3
    (P_erase_told_16 R x0 (proj 5 x0) (proj 6 x0))
    (ob (dBin .eql (proj 0 x0) (.int .i64 5)) fun d4 =>
    oif d4
     (P_erase_told_16 R x0 (proj 5 x0) (proj 6 x0))
     (ob (dBin .eql (proj 0 x0) (.int .i64 7)) fun d5 =>
     oif d5
      (some (.tup [(.agg [(.int .i64 6), (proj 5 x0), (proj 6 x0), (.int .i64 0), (.int .i64 0), (.int .i64 0), (.bool false), (.list 5 []), (.list 9 [])]), (.int .i64 1)]))
      (ob (dBin .eql (proj 0 x0) (.int .i64 9)) fun d6 =>
      oif d6
       (some (.tup [(.agg [(.int .i64 8), (proj 5 x0), (proj 6 x0), (.int .i64 0), (.int .i64 0), (.int .i64 0), (.bool false), (.list 5 []), (.list 9 [])]), (.int .i64 1)]))
       (ob (dBin .eql (proj 0 x0) (.int .i64 8)) fun d7 =>
       oif d7
        (ob (dLen (proj 15 x0)) fun d8 =>
        P_erase_told_7h R (.int .i64 1) (proj 15 x0) d8 (.int .i64 0) (.int .i64 7) (proj 5 x0) (proj 6 x0) (.list 9 []))
        (ob (dLen (proj 15 x0)) fun d9 =>
        P_erase_told_7h R (.int .i64 1) (proj 15 x0) d9 (.int .i64 0) (.int .i64 5) (proj 5 x0) (proj 6 x0) (.list 9 []))))))))) := evP_of [16] (by kernel_rfl)
theorem eq_erase_told_16 (R : Orc) (b1 b4_1 b4_2 : DV) : P_erase_told_16 R b1 b4_1 b4_2 =
 (ob (dBin .sub (proj 0 b1) (.int .i64 2)) fun d1 =>
 ob (dBin .add d1 (.int .i64 1)) fun d2 =>
 og (isCell d2) <|
 some (.tup [(.agg [d2, b4_1, b4_2, (.int .i64 0), (.int .i64 0), (.int .i64 0), (.bool false), (.list 5 []), (.list 9 [])]), (.int .i64 1)])) := evP_of [16] (by kernel_rfl)
theorem eq_erase_told_7h (R : Orc) (t5 t23 t24 t25 b4_0 b4_1 b4_2 b4_8 : DV) : P_erase_told_7h R t5 t23 t24 t25 b4_0 b4_1 b4_2 b4_8 =
 (ob (dBin .lss t25 t24) fun d1 =>
 oif d1
  (ob (dIdx 16 t23 t25) fun d2 =>
  ob (R.p F_erase_told [(ag16 d2)]) fun d3 =>
  ob (dExt 0 d3) fun d4 =>
  ob (dExt 1 d3) fun d5 =>
  og (isAggN 9 d4) <|
  ob (dApp 9 b4_8 (.list 9 [(ag9 d4)])) fun d6 =>
  ob (dBin .add t5 d5) fun d7 =>
  ob (dBin .add t25 (.int .i64 1)) fun d8 =>
  P_erase_told_7h R d7 t23 t24 d8 b4_0 b4_1 b4_2 d6)
  (some (.tup [(.agg [b4_0, b4_1, b4_2, (.int .i64 0), (.int .i64 0), (.int .i64 0), (.bool false), (.list 5 []), b4_8]), t5]))) := headP_of [16] (by kernel_rfl)
theorem call_erase_told (x0 : DV) {d : DV} (h : P_erase_told (run cfg) x0 = some d) : (run cfg).p F_erase_told [x0] = some d := callE Tryz.func52 (by kernel_rfl) (by kernel_rfl) (by kernel_rfl) h
noncomputable def code_tree_Check : Code := Tryz.f54.body.getD .skip
noncomputable def P_tree_Check (R : Orc) (x0 : DV) : Option DV := eP Tryz.f54 fl_tree_Check R [] (initSt Tryz.f54 [(x0, .val)] [])
noncomputable def P_tree_Check_r0 (R : Orc) (t0 t4 : DV) (sg : List SObj) : Option DV := eP Tryz.f54 fl_tree_Check R [true, false, true, false] (mst 10 [(0, t0), (3, (.tup [])), (4, t4), (6, (.tup [])), (7, (.tup [])), (8, (.tup [])), (9, (.tup []))] [(1, (.ptr 0 0)), (2, (.ptr 1 0)), (5, (.fn 140 [(2, 0)]))] [] sg)
noncomputable def rcode_tree_Check_r0 : Code := match (sub [true, false, true, false] code_tree_Check []).1 with
 | .rangeFunc _ _ a b => .seq a b
 | c => c
noncomputable def X_tree_Check_r0 (R : Orc) (t0 t4 : DV) (o : Out) (sg : List SObj) : Option DV := konP cfg R fl_tree_Check (retP cfg.P Tryz.f54) [true, false, true, false] code_tree_Check o (outerSt ⟨spread .undef 10 0 [(0, t0), (3, (.tup [])), (4, t4), (6, (.tup [])), (7, (.tup [])), (8, (.tup [])), (9, (.tup []))], spread .val 10 0 [(1, (.ptr 0 0)), (2, (.ptr 1 0)), (5, (.fn 140 [(2, 0)]))], spread none 10 0 [], []⟩ sg)
noncomputable def B_tree_Check_r0 (R : Orc) (t0 t4 : DV) (I : List SObj → Option DV) (x : DV) (sg : List SObj) : Option DV := evP cfg R fl_tree_Check (kr I (X_tree_Check_r0 R t0 t4)) [] rcode_tree_Check_r0 (mst 10 [(6, x)] [(2, (.ptr 1 0))] [] sg)
noncomputable def I_tree_Check_r0 (R : Orc) (t0 t4 : DV) : List DV → List SObj → Option DV := foldIt (fun x I sg => B_tree_Check_r0 R t0 t4 I x sg) (X_tree_Check_r0 R t0 t4 .normal)
theorem eq_tree_Check (R : Orc) (x0 : DV) : P_tree_Check R x0 =
 (og (isAggN 16 x0) <|
 P_tree_Check_r0 R x0 (ag16 x0) [SObj.box [((proj 0 x0), .val), ((proj 1 x0), .val), ((proj 2 x0), .val), ((proj 3 x0), .val), ((proj 4 x0), .val), ((proj 5 x0), .val), ((proj 6 x0), .val), ((proj 7 x0), .val), ((proj 8 x0), .val), ((proj 9 x0), .val), ((proj 10 x0), .val), ((proj 11 x0), .val), ((proj 12 x0), .val), ((proj 13 x0), .val), ((proj 14 x0), .val), ((proj 15 x0), .val)], SObj.box [((.int .i64 0), .val)], SObj.box [((proj 0 x0), .val), ((proj 1 x0), .val), ((proj 2 x0), .val), ((proj 3 x0), .val), ((proj 4 x0), .val), ((proj 5 x0), .val), ((proj 6 x0), .val), ((proj 7 x0), .val), ((proj 8 x0), .val), ((proj 9 x0), .val), ((proj 10 x0), .val), ((proj 11 x0), .val), ((proj 12 x0), .val), ((proj 13 x0), .val), ((proj 14 x0), .val), ((proj 15 x0), .val)]]) := evP_of [] (by kernel_rfl)
theorem eq_tree_Check_r0 (R : Orc) (t0 t4 : DV) (sg : List SObj) : P_tree_Check_r0 R t0 t4 sg =
 ob (sgBox sg 2) fun cs => ob (allDat cs) fun cd => ob (flatD 16 15 cd) fun ds => I_tree_Check_r0 R t0 t4 ds (sg.set 2 (.arr 1 [])) :=
 (rangeP2 (t := 5) (f := 140) (i := 2) (q := 6) (it := flatD 16 15) (by kernel_rfl) (by kernel_rfl) (by kernel_rfl) (by kernel_rfl)).trans (by kernel_rfl)
theorem I_tree_Check_r0_nil (R : Orc) (t0 t4 : DV) (sg : List SObj) : I_tree_Check_r0 R t0 t4 [] sg = X_tree_Check_r0 R t0 t4 .normal sg := rfl
theorem I_tree_Check_r0_cons (R : Orc) (t0 t4 x : DV) (ds : List DV) (sg : List SObj) : I_tree_Check_r0 R t0 t4 (x :: ds) sg = B_tree_Check_r0 R t0 t4 (I_tree_Check_r0 R t0 t4 ds) x sg := rfl
theorem eq_B_tree_Check_r0 (R : Orc) (t0 t4 : DV) (I : List SObj → Option DV) (x : DV) (sg : List SObj) : B_tree_Check_r0 R t0 t4 I x sg =
 (og (isAggN 16 x) <|
 ob (R.p F_tree_one [(ag16 x)]) fun d1 =>
 ob (dUn .not d1) fun d2 =>
 oif d2
  (ob (sgBox sg 1) fun c3 =>
  ob (c3[0]?) fun u4 =>
  X_tree_Check_r0 R t0 t4 .ret (sg.set 1 (SObj.box (c3.set 0 ((.int .i64 1), .val)))))
  (I sg)) := evP_of [] (by kernel_rfl)
theorem eq_X_tree_Check_r0_normal (R : Orc) (t0 t4 : DV) (sg : List SObj) : X_tree_Check_r0 R t0 t4 .normal sg =
 (ob (sgBox sg 1) fun c1 =>
 ob (c1[0]?) fun u2 =>
 ret1 (ob (sgBox (sg.set 1 (SObj.box (c1.set 0 ((.int .i64 0), .val)))) 1) fun c => oneCell (sg.set 1 (SObj.box (c1.set 0 ((.int .i64 0), .val)))) c)) := konP_of [] (by kernel_rfl)
theorem eq_X_tree_Check_r0_ret (R : Orc) (t0 t4 : DV) (sg : List SObj) : X_tree_Check_r0 R t0 t4 .ret sg =
 (ret1 (ob (sgBox sg 1) fun c => oneCell sg c)) := konP_of [] (by kernel_rfl)
theorem call_tree_Check (x0 : DV) {d : DV} (h : P_tree_Check (run cfg) x0 = some d) : (run cfg).p F_tree_Check [x0] = some d := callE Tryz.func54 (by kernel_rfl) (by kernel_rfl) (by kernel_rfl) h
noncomputable def P_word_Name (R : Orc) (x0 : DV) : Option DV := eP Tryz.f55 fl_word_Name R [] (initSt Tryz.f55 [(x0, .val)] [])
noncomputable def P_word_Name_4h (R : Orc) (t0 t3 : DV) : Option DV := hP Tryz.f55 fl_word_Name R [true, true, false, true, false] (mst 37 [(0, t0), (3, t3)] [] [] [])
set_option maxRecDepth 100000 in
theorem eq_word_Name (R : Orc) (x0 : DV) : P_word_Name R x0 =
 (ob (dLenS x0) fun d1 =>
 ob (dBin .lss d1 (.int .i64 1)) fun d2 =>
 ogd d2
  (some (.bool false))
  (ob (dLenS x0) fun d3 =>
  ob (dBin .gtr d3 (.int .i64 32)) fun d4 =>
  ogd d4
   (some (.bool false))
   (ob (dStrIdx x0 (.int .i64 0)) fun d5 =>
   ob (dBin .lss d5 (.int .u8 97)) fun d6 =>
   ogd d6
    (some (.bool false))
    (ob (dStrIdx x0 (.int .i64 0)) fun d7 =>
    ob (dBin .gtr d7 (.int .u8 122)) fun d8 =>
    ogd d8
     (some (.bool false))
     (ob (R.p F_word_Key [x0]) fun d9 =>
     oif d9
      (some (.bool false))
      (P_word_Name_4h R x0 (.int .i64 1)))
     none)
    none)
   none)
  none) := evP_of [] (by kernel_rfl)
theorem eq_word_Name_4h (R : Orc) (t0 t3 : DV) : P_word_Name_4h R t0 t3 =
 (ob (dLenS t0) fun d1 =>
 ob (dBin .lss t3 d1) fun d2 =>
 oif d2
  (ob (dStrIdx t0 t3) fun d3 =>
  ob (R.p F_word_inner [d3]) fun d4 =>
  ob (dUn .not d4) fun d5 =>
  oif d5
   (some (.bool false))
   (ob (dBin .add t3 (.int .i64 1)) fun d6 =>
   P_word_Name_4h R t0 d6))
  (some (.bool true))) := headP_of [] (by kernel_rfl)
theorem call_word_Name (x0 : DV) {d : DV} (h : P_word_Name (run cfg) x0 = some d) : (run cfg).p F_word_Name [x0] = some d := callE Tryz.func55 (by kernel_rfl) (by kernel_rfl) (by kernel_rfl) h
noncomputable def P_erase_put (R : Orc) (x0 x1 x2 : DV) : Option DV := eP Tryz.f56 fl_erase_put R [] (initSt Tryz.f56 [(x0, .val), (x1, .val), (x2, .val)] [])
noncomputable def P_erase_put_3 (R : Orc) (t1 b3 b5 : DV) : Option DV := eP Tryz.f56 fl_erase_put R [true, true] (mst 46 [(1, t1)] [(3, (.loc 3 0)), (5, (.loc 5 0)), (6, (.loc 6 0))] [(3, some (bxs b3 0 16)), (5, some (bxs b5 0 16)), (6, some zb1)] [])
noncomputable def P_erase_put_5h (R : Orc) (t1 : DV) (t24r3 : Nat) (t25 t26 b3_0 b3_1 b3_2 b3_3 b3_4 b3_5 b3_6 b3_7 b3_8 b3_9 b3_10 b3_11 b3_12 b3_13 b3_14 : DV) (b3_15r3 : Nat) (b5 : DV) (sg : List SObj) : Option DV := hP Tryz.f56 fl_erase_put R [true, true, true, false, true, false] (mst 46 [(1, t1), (25, t25), (26, t26)] [(3, (.loc 3 0)), (5, (.loc 5 0)), (6, (.loc 6 0)), (24, (.arr 0 16 0 t24r3))] [(3, some [(b3_0, .val), (b3_1, .val), (b3_2, .val), (b3_3, .val), (b3_4, .val), (b3_5, .val), (b3_6, .val), (b3_7, .val), (b3_8, .val), (b3_9, .val), (b3_10, .val), (b3_11, .val), (b3_12, .val), (b3_13, .val), (b3_14, .val), (.undef, (.arr 0 16 0 b3_15r3))]), (5, some (bxs b5 0 16)), (6, some zb1)] sg)
theorem eq_erase_put (R : Orc) (x0 x1 x2 : DV) : P_erase_put R x0 x1 x2 =
 (og (isAggN 16 x0) <|
 og (isAggN 16 x2) <|
 ob (dBin .eql (proj 0 x0) (.int .i64 1)) fun d1 =>
 ogd d1
  (ob (dBin .eql (proj 3 x0) x1) fun d2 =>
  oif d2
   (some (ag16 x2))
   (P_erase_put_3 R x1 x0 x2))
  (P_erase_put_3 R x1 x0 x2)
  none) := evP_of [3] (by kernel_rfl)
theorem eq_erase_put_3 (R : Orc) (t1 b3 b5 : DV) : P_erase_put_3 R t1 b3 b5 =
 (ob (dList (proj 15 b3)) fun p1 =>
 og (true && p1.1 == 16 && decide (p1.2.length ≤ lim)) <|
 P_erase_put_5h R t1 (p1.2.length) (.int .i64 p1.2.length) (.int .i64 0) (proj 0 b3) (proj 1 b3) (proj 2 b3) (proj 3 b3) (proj 4 b3) (proj 5 b3) (proj 6 b3) (proj 7 b3) (proj 8 b3) (proj 9 b3) (proj 10 b3) (proj 11 b3) (proj 12 b3) (proj 13 b3) (proj 14 b3) (p1.2.length) b5 [.arr 16 p1.2]) := evP_of [3] (by kernel_rfl)
theorem eq_erase_put_5h (R : Orc) (t1 : DV) (t24r3 : Nat) (t25 t26 b3_0 b3_1 b3_2 b3_3 b3_4 b3_5 b3_6 b3_7 b3_8 b3_9 b3_10 b3_11 b3_12 b3_13 b3_14 : DV) (b3_15r3 : Nat) (b5 : DV) (sg : List SObj) : P_erase_put_5h R t1 t24r3 t25 t26 b3_0 b3_1 b3_2 b3_3 b3_4 b3_5 b3_6 b3_7 b3_8 b3_9 b3_10 b3_11 b3_12 b3_13 b3_14 b3_15r3 b5 sg =
 (ob (dBin .lss t26 t25) fun d1 =>
 oif d1
  (ob (arrIdx 0 t24r3 t26) fun n2 =>
  ob (sgArr sg 0) fun r3 =>
  ob (r3.2[n2]?) fun d4 =>
  og (r3.1 == 16) <|
  ob (R.p F_erase_binds [(.agg [b3_0, b3_1, b3_2, b3_3, b3_4, b3_5, b3_6, b3_7, b3_8, b3_9, b3_10, b3_11, b3_12, b3_13, b3_14, .undef]), t26, t1]) fun d5 =>
  ob (dUn .not d5) fun d6 =>
  oif d6
   (ob (R.p F_erase_put [(ag16 d4), t1, (ag16 b5)]) fun d7 =>
   ob (arrIdx 0 b3_15r3 t26) fun n8 =>
   ob (sgArr sg 0) fun r9 =>
   ob (r9.2[n8]?) fun u10 =>
   og (isAggN 16 d7) <|
   og (r9.1 == 16) <|
   ob (dBin .add t26 (.int .i64 1)) fun d11 =>
   P_erase_put_5h R t1 t24r3 t25 d11 b3_0 b3_1 b3_2 b3_3 b3_4 b3_5 b3_6 b3_7 b3_8 b3_9 b3_10 b3_11 b3_12 b3_13 b3_14 b3_15r3 b5 (sg.set 0 (.arr 16 (r9.2.set n8 d7))))
   (ob (dBin .add t26 (.int .i64 1)) fun d12 =>
   P_erase_put_5h R t1 t24r3 t25 d12 b3_0 b3_1 b3_2 b3_3 b3_4 b3_5 b3_6 b3_7 b3_8 b3_9 b3_10 b3_11 b3_12 b3_13 b3_14 b3_15r3 b5 sg))
  (retL [ob (sealCells sg [(b3_0, .val), (b3_1, .val), (b3_2, .val), (b3_3, .val), (b3_4, .val), (b3_5, .val), (b3_6, .val), (b3_7, .val), (b3_8, .val), (b3_9, .val), (b3_10, .val), (b3_11, .val), (b3_12, .val), (b3_13, .val), (b3_14, .val), (.undef, (.arr 0 16 0 b3_15r3))]) fun ds => some (.agg ds)])) := headP_of [3] (by kernel_rfl)
theorem call_erase_put (x0 x1 x2 : DV) {d : DV} (h : P_erase_put (run cfg) x0 x1 x2 = some d) : (run cfg).p F_erase_put [x0, x1, x2] = some d := callE Tryz.func56 (by kernel_rfl) (by kernel_rfl) (by kernel_rfl) h
noncomputable def P_r01_Name (R : Orc) (x0 : DV) : Option DV := eP Tryz.f57 fl_r01_Name R [] (initSt Tryz.f57 [(x0, .val)] [])
noncomputable def P_r01_Name_4h (R : Orc) (t0 t3 : DV) : Option DV := hP Tryz.f57 fl_r01_Name R [true, true, false, true, false] (mst 32 [(0, t0), (3, t3)] [] [] [])
theorem eq_r01_Name (R : Orc) (x0 : DV) : P_r01_Name R x0 =
 (ob (dLenS x0) fun d1 =>
 ob (dBin .lss d1 (.int .i64 1)) fun d2 =>
 ogd d2
  (some (.bool false))
  (ob (dLenS x0) fun d3 =>
  ob (dBin .gtr d3 (.int .i64 32)) fun d4 =>
  ogd d4
   (some (.bool false))
   (ob (dStrIdx x0 (.int .i64 0)) fun d5 =>
   ob (R.p F_r01_lower [d5]) fun d6 =>
   ob (dUn .not d6) fun d7 =>
   oif d7
    (some (.bool false))
    (P_r01_Name_4h R x0 (.int .i64 0)))
   none)
  none) := evP_of [] (by kernel_rfl)
theorem eq_r01_Name_4h (R : Orc) (t0 t3 : DV) : P_r01_Name_4h R t0 t3 =
 (ob (dLenS t0) fun d1 =>
 ob (dBin .lss t3 d1) fun d2 =>
 oif d2
  (ob (dStrIdx t0 t3) fun d3 =>
  ob (R.p F_r01_part [d3]) fun d4 =>
  ob (dUn .not d4) fun d5 =>
  oif d5
   (some (.bool false))
   (ob (dBin .add t3 (.int .i64 1)) fun d6 =>
   P_r01_Name_4h R t0 d6))
  (ob (R.p F_r01_Key [t0]) fun d7 =>
  ob (dUn .not d7) fun d8 =>
  some d8)) := headP_of [] (by kernel_rfl)
theorem call_r01_Name (x0 : DV) {d : DV} (h : P_r01_Name (run cfg) x0 = some d) : (run cfg).p F_r01_Name [x0] = some d := callE Tryz.func57 (by kernel_rfl) (by kernel_rfl) (by kernel_rfl) h
noncomputable def P_r23_replaced (R : Orc) (x0 x1 x2 : DV) : Option DV := eP Tryz.f58 fl_r23_replaced R [] (initSt Tryz.f58 [(x0, .val), (x1, .val), (x2, .val)] [])
noncomputable def P_r23_replaced_3 (R : Orc) (t1 b3 b5 : DV) : Option DV := eP Tryz.f58 fl_r23_replaced R [true, true] (mst 53 [(1, t1)] [(3, (.loc 3 0)), (5, (.loc 5 0)), (6, (.loc 6 0))] [(3, some (bxs b3 0 16)), (5, some (bxs b5 0 16)), (6, some zb1)] [])
noncomputable def P_r23_replaced_5h (R : Orc) (t1 t7 t8 b3 b5 : DV) : Option DV := hP Tryz.f58 fl_r23_replaced R [true, true, true, false, true, false] (mst 53 [(1, t1), (7, t7), (8, t8)] [(3, (.loc 3 0)), (5, (.loc 5 0)), (6, (.loc 6 0)), (7, .own)] [(3, some (bxs b3 0 16)), (5, some (bxs b5 0 16)), (6, some zb1)] [])
theorem eq_r23_replaced (R : Orc) (x0 x1 x2 : DV) : P_r23_replaced R x0 x1 x2 =
 (og (isAggN 16 x0) <|
 og (isAggN 16 x2) <|
 ob (dBin .eql (proj 0 x0) (.int .i64 1)) fun d1 =>
 ogd d1
  (ob (dBin .eql (proj 3 x0) x1) fun d2 =>
  oif d2
   (some (ag16 x2))
   (P_r23_replaced_3 R x1 x0 x2))
  (P_r23_replaced_3 R x1 x0 x2)
  none) := evP_of [3] (by kernel_rfl)
theorem eq_r23_replaced_3 (R : Orc) (t1 b3 b5 : DV) : P_r23_replaced_3 R t1 b3 b5 =
 (P_r23_replaced_5h R t1 (.list 16 []) (.int .i64 0) b3 b5) := evP_of [3] (by kernel_rfl)
theorem eq_r23_replaced_5h (R : Orc) (t1 t7 t8 b3 b5 : DV) : P_r23_replaced_5h R t1 t7 t8 b3 b5 =
 (ob (dLen (proj 15 b3)) fun d1 =>
 ob (dBin .lss t8 d1) fun d2 =>
 oif d2
  (ob (R.p F_r05_Binds [(ag16 b3), t8]) fun d3 =>
  ob (R.p F_r05_Has [d3, t1]) fun d4 =>
  oif d4
   (ob (dIdx 16 (proj 15 b3) t8) fun d5 =>
   ob (dApp 16 t7 (.list 16 [(ag16 d5)])) fun d6 =>
   ob (dBin .add t8 (.int .i64 1)) fun d7 =>
   P_r23_replaced_5h R t1 d6 d7 b3 b5)
   (ob (dIdx 16 (proj 15 b3) t8) fun d8 =>
   ob (R.p F_r23_replaced [(ag16 d8), t1, (ag16 b5)]) fun d9 =>
   og (isAggN 16 d9) <|
   ob (dApp 16 t7 (.list 16 [d9])) fun d10 =>
   ob (dBin .add t8 (.int .i64 1)) fun d11 =>
   P_r23_replaced_5h R t1 d10 d11 b3 b5))
  (some (.agg [(proj 0 b3), (proj 1 b3), (proj 2 b3), (proj 3 b3), (proj 4 b3), (proj 5 b3), (proj 6 b3), (proj 7 b3), (proj 8 b3), (proj 9 b3), (proj 10 b3), (proj 11 b3), (proj 12 b3), (proj 13 b3), (proj 14 b3), t7]))) := headP_of [3] (by kernel_rfl)
theorem call_r23_replaced (x0 x1 x2 : DV) {d : DV} (h : P_r23_replaced (run cfg) x0 x1 x2 = some d) : (run cfg).p F_r23_replaced [x0, x1, x2] = some d := callE Tryz.func58 (by kernel_rfl) (by kernel_rfl) (by kernel_rfl) h
end Go.Su

/-
 Equations of the program's functions: by program.
-/
namespace Go.Su
open Go.Proofs
set_option linter.unusedVariables false
noncomputable def P_r23_Same (R : Orc) (x0 x1 : DV) : Option DV := eP Tryz.f61 fl_r23_Same R [] (initSt Tryz.f61 [(x0, .val), (x1, .val)] [])
noncomputable def P_r23_Same_4h (R : Orc) (t5 b2 b3 : DV) : Option DV := hP Tryz.f61 fl_r23_Same R [true, true, false, true, false] (mst 61 [(5, t5)] [(2, (.loc 2 0)), (3, (.loc 3 0))] [(2, some (bxs b2 0 9)), (3, some (bxs b3 0 9))] [])
set_option maxRecDepth 100000 in
theorem eq_r23_Same (R : Orc) (x0 x1 : DV) : P_r23_Same R x0 x1 =
 (og (isAggN 9 x0) <|
 og (isAggN 9 x1) <|
 ob (dBin .neq (proj 0 x0) (proj 0 x1)) fun d1 =>
 ogd d1
  (some (.bool false))
  (ob (dBin .neq (proj 1 x0) (proj 1 x1)) fun d2 =>
  ogd d2
   (some (.bool false))
   (ob (dBin .neq (proj 2 x0) (proj 2 x1)) fun d3 =>
   ogd d3
    (some (.bool false))
    (ob (R.p F_r20_Same [(.agg [(proj 3 x0), (proj 4 x0), (proj 5 x0), (proj 6 x0), (proj 7 x0)]), (.agg [(proj 3 x1), (proj 4 x1), (proj 5 x1), (proj 6 x1), (proj 7 x1)])]) fun d4 =>
    ob (dUn .not d4) fun d5 =>
    ogd d5
     (some (.bool false))
     (ob (dLen (proj 8 x0)) fun d6 =>
     ob (dLen (proj 8 x1)) fun d7 =>
     ob (dBin .neq d6 d7) fun d8 =>
     oif d8
      (some (.bool false))
      (P_r23_Same_4h R (.int .i64 0) x0 x1))
     none)
    none)
   none)
  none) := evP_of [] (by kernel_rfl)
theorem eq_r23_Same_4h (R : Orc) (t5 b2 b3 : DV) : P_r23_Same_4h R t5 b2 b3 =
 (ob (dLen (proj 8 b2)) fun d1 =>
 ob (dBin .lss t5 d1) fun d2 =>
 oif d2
  (ob (dIdx 9 (proj 8 b2) t5) fun d3 =>
  ob (dIdx 9 (proj 8 b3) t5) fun d4 =>
  ob (R.p F_r23_Same [(ag9 d3), (ag9 d4)]) fun d5 =>
  ob (dUn .not d5) fun d6 =>
  oif d6
   (some (.bool false))
   (ob (dBin .add t5 (.int .i64 1)) fun d7 =>
   P_r23_Same_4h R d7 b2 b3))
  (some (.bool true))) := headP_of [] (by kernel_rfl)
theorem call_r23_Same (x0 x1 : DV) {d : DV} (h : P_r23_Same (run cfg) x0 x1 = some d) : (run cfg).p F_r23_Same [x0, x1] = some d := callE Tryz.func61 (by kernel_rfl) (by kernel_rfl) (by kernel_rfl) h
noncomputable def P_l26_num (R : Orc) (x0 : DV) : Option DV := eP Tryz.f62 fl_l26_num R [] (initSt Tryz.f62 [(x0, .val)] [])
theorem eq_l26_num (R : Orc) (x0 : DV) : P_l26_num R x0 =
 (og (isCell x0) <|
 some (.agg [(.int .i64 2), (.int .i64 0), (.int .i64 0), (.str ⟨#[]⟩), (.str ⟨#[]⟩), x0, (.str ⟨#[]⟩), (.int .i64 0), (.int .i64 0), (.int .i64 0), (.list 3 []), (.int .i64 0), (.int .i64 0), (.list 3 []), (.list 7 []), (.list 16 [])])) := evP_of [] (by kernel_rfl)
theorem call_l26_num (x0 : DV) {d : DV} (h : P_l26_num (run cfg) x0 = some d) : (run cfg).p F_l26_num [x0] = some d := callE Tryz.func62 (by kernel_rfl) (by kernel_rfl) (by kernel_rfl) h
noncomputable def P_r05_own (R : Orc) (x0 : DV) : Option DV := eP Tryz.f63 fl_r05_own R [] (initSt Tryz.f63 [(x0, .val)] [])
noncomputable def P_r05_own_4 (R : Orc) (b1 b3 : DV) : Option DV := eP Tryz.f63 fl_r05_own R [true, true, true] (mst 137 [] [(1, (.loc 1 0)), (3, (.loc 3 0))] [(1, some (bxs b1 0 16)), (3, some (bxs b3 0 16))] [])
noncomputable def P_r05_own_6 (R : Orc) (b1 : DV) : Option DV := eP Tryz.f63 fl_r05_own R [true, true, true, true] (mst 137 [] [(1, (.loc 1 0))] [(1, some (bxs b1 0 16))] [])
set_option maxRecDepth 100000 in
theorem eq_r05_own (R : Orc) (x0 : DV) : P_r05_own R x0 =
 (og (isAggN 16 x0) <|
 ob (R.p F_r05_fields [(ag16 x0)]) fun d1 =>
 ob (dExt 0 d1) fun d2 =>
 ob (dExt 1 d1) fun d3 =>
 og (isAggN 16 d2) <|
 ob (dLen (proj 15 x0)) fun d4 =>
 ob (dBin .neq d3 d4) fun d5 =>
 ogd d5
  (some (.bool false))
  (ob (dBin .neq (proj 3 x0) (proj 3 d2)) fun d6 =>
  ogd d6
   (some (.bool false))
   (ob (dBin .neq (proj 4 x0) (proj 4 d2)) fun d7 =>
   ogd d7
    (some (.bool false))
    (ob (dBin .neq (proj 5 x0) (proj 5 d2)) fun d8 =>
    ogd d8
     (some (.bool false))
     (ob (dBin .neq (proj 6 x0) (proj 6 d2)) fun d9 =>
     ogd d9
      (some (.bool false))
      (ob (dBin .neq (proj 7 x0) (proj 7 d2)) fun d10 =>
      ogd d10
       (some (.bool false))
       (ob (dLen (proj 14 x0)) fun d11 =>
       ob (dLen (proj 14 d2)) fun d12 =>
       ob (dBin .neq d11 d12) fun d13 =>
       oif d13
        (some (.bool false))
        (P_r05_own_4 R x0 d2))
       none)
      none)
     none)
    none)
   none)
  none) := evP_of [4, 6] (by kernel_rfl)
theorem eq_r05_own_4 (R : Orc) (b1 b3 : DV) : P_r05_own_4 R b1 b3 =
 (ob (R.p F_r03_Same [(.agg [(proj 8 b1), (proj 9 b1), (proj 10 b1)]), (.agg [(proj 8 b3), (proj 9 b3), (proj 10 b3)])]) fun d1 =>
 ob (dUn .not d1) fun d2 =>
 ogd d2
  (some (.bool false))
  (ob (R.p F_r03_Same [(.agg [(proj 11 b1), (proj 12 b1), (proj 13 b1)]), (.agg [(proj 11 b3), (proj 12 b3), (proj 13 b3)])]) fun d3 =>
  ob (dUn .not d3) fun d4 =>
  oif d4
   (some (.bool false))
   (P_r05_own_6 R b1))
  none) := evP_of [4, 6] (by kernel_rfl)
set_option maxRecDepth 100000 in
theorem eq_r05_own_6 (R : Orc) (b1 : DV) : P_r05_own_6 R b1 =
 (ob (dBin .neq (proj 0 b1) (.int .i64 15)) fun d1 =>
 ob (R.p F_r05_note [(.agg [(proj 8 b1), (proj 9 b1), (proj 10 b1)]), d1]) fun d2 =>
 ob (dUn .not d2) fun d3 =>
 ogd d3
  (some (.bool false))
  (ob (R.p F_r05_note [(.agg [(proj 11 b1), (proj 12 b1), (proj 13 b1)]), (.bool true)]) fun d4 =>
  ob (dUn .not d4) fun d5 =>
  oif d5
   (some (.bool false))
   (ob (dBin .eql (proj 0 b1) (.int .i64 1)) fun d6 =>
   oif d6
    (ob (R.p F_r01_Name [(proj 3 b1)]) fun d7 =>
    some d7)
    (ob (dBin .eql (proj 0 b1) (.int .i64 9)) fun d8 =>
    oif d8
     (ob (R.p F_r01_Name [(proj 3 b1)]) fun d9 =>
     some d9)
     (ob (dBin .eql (proj 0 b1) (.int .i64 11)) fun d10 =>
     oif d10
      (ob (R.p F_r01_Name [(proj 3 b1)]) fun d11 =>
      some d11)
      (ob (dBin .eql (proj 0 b1) (.int .i64 12)) fun d12 =>
      oif d12
       (ob (R.p F_r01_Name [(proj 3 b1)]) fun d13 =>
       ogd d13
        (ob (R.p F_r01_Name [(proj 4 b1)]) fun d14 =>
        some d14)
        (some (.bool false))
        none)
       (ob (dBin .eql (proj 0 b1) (.int .i64 3)) fun d15 =>
       oif d15
        (ob (dBin .eql (proj 5 b1) (.int .i64 0)) fun d16 =>
        ogd d16
         (some (.bool true))
         (ob (dBin .eql (proj 5 b1) (.int .i64 1)) fun d17 =>
         some d17)
         none)
        (ob (dBin .eql (proj 0 b1) (.int .i64 4)) fun d18 =>
        oif d18
         (ob (dLenS (proj 6 b1)) fun d19 =>
         ob (dBin .leq d19 (.int .i64 200)) fun d20 =>
         some d20)
         (ob (dBin .eql (proj 0 b1) (.int .i64 14)) fun d21 =>
         oif d21
          (ob (dLen (proj 14 b1)) fun d22 =>
          ob (dBin .gtr d22 (.int .i64 0)) fun d23 =>
          some d23)
          (ob (dBin .eql (proj 0 b1) (.int .i64 16)) fun d24 =>
          oif d24
           (ob (dBin .geq (proj 7 b1) (.int .i64 1)) fun d25 =>
           ogd d25
            (ob (dBin .leq (proj 7 b1) (.int .i64 7)) fun d26 =>
            some d26)
            (some (.bool false))
            none)
           (some (.bool true)))))))))))
  none) := evP_of [4, 6] (by kernel_rfl)
theorem call_r05_own (x0 : DV) {d : DV} (h : P_r05_own (run cfg) x0 = some d) : (run cfg).p F_r05_own [x0] = some d := callE Tryz.func63 (by kernel_rfl) (by kernel_rfl) (by kernel_rfl) h
noncomputable def P_r05_RightPat (R : Orc) (x0 : DV) : Option DV := eP Tryz.f64 fl_r05_RightPat R [] (initSt Tryz.f64 [(x0, .val)] [])
noncomputable def P_r05_RightPat_5h (R : Orc) (t3 t4 : DV) : Option DV := hP Tryz.f64 fl_r05_RightPat R [true, true, true, false, true, false] (mst 24 [(3, t3), (4, t4)] [] [] [])
theorem eq_r05_RightPat (R : Orc) (x0 : DV) : P_r05_RightPat R x0 =
 (og (isAggN 7 x0) <|
 ob (R.p F_r05_pat [(ag7 x0)]) fun d1 =>
 ob (dUn .not d1) fun d2 =>
 oif d2
  (some (.bool false))
  (ob (R.p F_r05_Names [(ag7 x0)]) fun d3 =>
  P_r05_RightPat_5h R d3 (.int .i64 0))) := evP_of [] (by kernel_rfl)
theorem eq_r05_RightPat_5h (R : Orc) (t3 t4 : DV) : P_r05_RightPat_5h R t3 t4 =
 (ob (dLen t3) fun d1 =>
 ob (dBin .lss t4 d1) fun d2 =>
 oif d2
  (ob (dSlice 1 t3 none (some t4)) fun d3 =>
  ob (dIdx 1 t3 t4) fun d4 =>
  og (isLeaf d4) <|
  ob (R.p F_r05_Has [d3, d4]) fun d5 =>
  oif d5
   (some (.bool false))
   (ob (dBin .add t4 (.int .i64 1)) fun d6 =>
   P_r05_RightPat_5h R t3 d6))
  (some (.bool true))) := headP_of [] (by kernel_rfl)
theorem call_r05_RightPat (x0 : DV) {d : DV} (h : P_r05_RightPat (run cfg) x0 = some d) : (run cfg).p F_r05_RightPat [x0] = some d := callE Tryz.func64 (by kernel_rfl) (by kernel_rfl) (by kernel_rfl) h
noncomputable def P_r03_Kids (R : Orc) (x0 : DV) : Option DV := eP Tryz.f69 fl_r03_Kids R [] (initSt Tryz.f69 [(x0, .val)] [])
theorem eq_r03_Kids (R : Orc) (x0 : DV) : P_r03_Kids R x0 =
 (ob (dBin .eql x0 (.int .i64 1)) fun d1 =>
 oif d1
  (some (.int .i64 0))
  (ob (dBin .eql x0 (.int .i64 2)) fun d2 =>
  oif d2
   (some (.int .i64 0))
   (ob (dBin .eql x0 (.int .i64 3)) fun d3 =>
   oif d3
    (some (.int .i64 0))
    (ob (dBin .eql x0 (.int .i64 4)) fun d4 =>
    oif d4
     (some (.int .i64 0))
     (ob (dBin .eql x0 (.int .i64 5)) fun d5 =>
     oif d5
      (some (.int .i64 0))
      (ob (dBin .eql x0 (.int .i64 6)) fun d6 =>
      oif d6
       (some (.int .i64 0))
       (ob (dBin .eql x0 (.int .i64 8)) fun d7 =>
       oif d7
        (some (.int .i64 1))
        (ob (dBin .eql x0 (.int .i64 7)) fun d8 =>
        oif d8
         (some (.int .i64 2))
         (ob (dBin .eql x0 (.int .i64 9)) fun d9 =>
         oif d9
          (some (.int .i64 2))
          (some (.int .i64 (-1)))))))))))) := evP_of [] (by kernel_rfl)
theorem call_r03_Kids (x0 : DV) {d : DV} (h : P_r03_Kids (run cfg) x0 = some d) : (run cfg).p F_r03_Kids [x0] = some d := callE Tryz.func69 (by kernel_rfl) (by kernel_rfl) (by kernel_rfl) h
noncomputable def P_r03_None (R : Orc) (x0 : DV) : Option DV := eP Tryz.f70 fl_r03_None R [] (initSt Tryz.f70 [(x0, .val)] [])
theorem eq_r03_None (R : Orc) (x0 : DV) : P_r03_None R x0 =
 (og (isAggN 3 x0) <|
 ob (dBin .eql (proj 0 x0) (.int .i64 0)) fun d1 =>
 ogd d1
  (ob (dBin .eql (proj 1 x0) (.int .i64 0)) fun d2 =>
  ogd d2
   (ob (dLen (proj 2 x0)) fun d3 =>
   ob (dBin .eql d3 (.int .i64 0)) fun d4 =>
   some d4)
   (some (.bool false))
   none)
  (some (.bool false))
  none) := evP_of [] (by kernel_rfl)
theorem call_r03_None (x0 : DV) {d : DV} (h : P_r03_None (run cfg) x0 = some d) : (run cfg).p F_r03_None [x0] = some d := callE Tryz.func70 (by kernel_rfl) (by kernel_rfl) (by kernel_rfl) h
noncomputable def P_r05_note (R : Orc) (x0 x1 : DV) : Option DV := eP Tryz.f71 fl_r05_note R [] (initSt Tryz.f71 [(x0, .val), (x1, .val)] [])
theorem eq_r05_note (R : Orc) (x0 x1 : DV) : P_r05_note R x0 x1 =
 (og (isAggN 3 x0) <|
 ob (R.p F_r03_None [(ag3 x0)]) fun d1 =>
 oif d1
  (some x1)
  (ob (R.p F_r03_Right [(ag3 x0)]) fun d2 =>
  ogd d2
   (ob (R.p F_r03_Without [(ag3 x0), (.int .i64 6)]) fun d3 =>
   some d3)
   (some (.bool false))
   none)) := evP_of [] (by kernel_rfl)
theorem call_r05_note (x0 x1 : DV) {d : DV} (h : P_r05_note (run cfg) x0 x1 = some d) : (run cfg).p F_r05_note [x0, x1] = some d := callE Tryz.func71 (by kernel_rfl) (by kernel_rfl) (by kernel_rfl) h
noncomputable def P_r05_free (R : Orc) (x0 x1 x2 : DV) : Option DV := eP Tryz.f73 fl_r05_free R [] (initSt Tryz.f73 [(x0, .val), (x1, .val), (x2, .val)] [])
noncomputable def P_r05_free_3 (R : Orc) (t1 t2 b3 : DV) : Option DV := eP Tryz.f73 fl_r05_free R [true, true] (mst 44 [(1, t1), (2, t2)] [(3, (.loc 3 0))] [(3, some (bxs b3 0 16))] [])
noncomputable def P_r05_free_4h (R : Orc) (t1 t2 t7 b3 : DV) : Option DV := hP Tryz.f73 fl_r05_free R [true, true, false, true, false] (mst 44 [(1, t1), (2, t2), (7, t7)] [(3, (.loc 3 0))] [(3, some (bxs b3 0 16))] [])
theorem eq_r05_free (R : Orc) (x0 x1 x2 : DV) : P_r05_free R x0 x1 x2 =
 (og (isAggN 16 x0) <|
 ob (dBin .eql (proj 0 x0) (.int .i64 1)) fun d1 =>
 ogd d1
  (ob (R.p F_r05_Has [x1, (proj 3 x0)]) fun d2 =>
  ob (dUn .not d2) fun d3 =>
  oif d3
   (ob (R.p F_r05_Rise [x2, (proj 3 x0)]) fun d4 =>
   P_r05_free_3 R x1 d4 x0)
   (P_r05_free_3 R x1 x2 x0))
  (P_r05_free_3 R x1 x2 x0)
  none) := evP_of [3] (by kernel_rfl)
theorem eq_r05_free_3 (R : Orc) (t1 t2 b3 : DV) : P_r05_free_3 R t1 t2 b3 =
 (P_r05_free_4h R t1 t2 (.int .i64 0) b3) := evP_of [3] (by kernel_rfl)
theorem eq_r05_free_4h (R : Orc) (t1 t2 t7 b3 : DV) : P_r05_free_4h R t1 t2 t7 b3 =
 (ob (dLen (proj 15 b3)) fun d1 =>
 ob (dBin .lss t7 d1) fun d2 =>
 oif d2
  (ob (dIdx 16 (proj 15 b3) t7) fun d3 =>
  ob (dApp 1 (.list 1 []) t1) fun d4 =>
  ob (R.p F_r05_Binds [(ag16 b3), t7]) fun d5 =>
  ob (dApp 1 d4 d5) fun d6 =>
  ob (R.p F_r05_free [(ag16 d3), d6, t2]) fun d7 =>
  ob (dBin .add t7 (.int .i64 1)) fun d8 =>
  P_r05_free_4h R t1 d7 d8 b3)
  (some t2)) := headP_of [3] (by kernel_rfl)
theorem call_r05_free (x0 x1 x2 : DV) {d : DV} (h : P_r05_free (run cfg) x0 x1 x2 = some d) : (run cfg).p F_r05_free [x0, x1, x2] = some d := callE Tryz.func73 (by kernel_rfl) (by kernel_rfl) (by kernel_rfl) h
noncomputable def P_l05_countType (R : Orc) (x0 x1 : DV) : Option DV := eP Tryz.f84 fl_l05_countType R [] (initSt Tryz.f84 [(x0, .val), (x1, .val)] [])
noncomputable def P_l05_countType_2h (R : Orc) (t1 t5 b2 : DV) : Option DV := hP Tryz.f84 fl_l05_countType R [true, false, true, false] (mst 26 [(1, t1), (5, t5)] [(2, (.loc 2 0))] [(2, some (bxs b2 0 3))] [])
theorem eq_l05_countType (R : Orc) (x0 x1 : DV) : P_l05_countType R x0 x1 =
 (og (isAggN 3 x0) <|
 P_l05_countType_2h R x1 (.int .i64 0) x0) := evP_of [] (by kernel_rfl)
theorem eq_l05_countType_2h (R : Orc) (t1 t5 b2 : DV) : P_l05_countType_2h R t1 t5 b2 =
 (ob (dLen (proj 2 b2)) fun d1 =>
 ob (dBin .lss t5 d1) fun d2 =>
 ogd d2
  (ob (dBin .leq t1 (.int .i64 400)) fun d3 =>
  oif d3
   (ob (dIdx 3 (proj 2 b2) t5) fun d4 =>
   ob (dBin .add t1 (.int .i64 1)) fun d5 =>
   ob (R.p F_l05_countType [(ag3 d4), d5]) fun d6 =>
   ob (dBin .add t5 (.int .i64 1)) fun d7 =>
   P_l05_countType_2h R d6 d7 b2)
   (some t1))
  (some t1)
  none) := headP_of [] (by kernel_rfl)
theorem call_l05_countType (x0 x1 : DV) {d : DV} (h : P_l05_countType (run cfg) x0 x1 = some d) : (run cfg).p F_l05_countType [x0, x1] = some d := callE Tryz.func84 (by kernel_rfl) (by kernel_rfl) (by kernel_rfl) h
noncomputable def P_l05_countPat (R : Orc) (x0 x1 : DV) : Option DV := eP Tryz.f85 fl_l05_countPat R [] (initSt Tryz.f85 [(x0, .val), (x1, .val)] [])
noncomputable def P_l05_countPat_4h (R : Orc) (t1 t5 b2 : DV) : Option DV := hP Tryz.f85 fl_l05_countPat R [true, true, false, true, false] (mst 36 [(1, t1), (5, t5)] [(2, (.loc 2 0))] [(2, some (bxs b2 0 7))] [])
theorem eq_l05_countPat (R : Orc) (x0 x1 : DV) : P_l05_countPat R x0 x1 =
 (og (isAggN 7 x0) <|
 ob (dLenS (proj 5 x0)) fun d1 =>
 ob (dBin .gtr d1 (.int .i64 300)) fun d2 =>
 ogd d2
  (some (.int .i64 401))
  (ob (dLenS (proj 3 x0)) fun d3 =>
  ob (dBin .gtr d3 (.int .i64 300)) fun d4 =>
  oif d4
   (some (.int .i64 401))
   (P_l05_countPat_4h R x1 (.int .i64 0) x0))
  none) := evP_of [] (by kernel_rfl)
theorem eq_l05_countPat_4h (R : Orc) (t1 t5 b2 : DV) : P_l05_countPat_4h R t1 t5 b2 =
 (ob (dLen (proj 6 b2)) fun d1 =>
 ob (dBin .lss t5 d1) fun d2 =>
 ogd d2
  (ob (dBin .leq t1 (.int .i64 400)) fun d3 =>
  oif d3
   (ob (dIdx 7 (proj 6 b2) t5) fun d4 =>
   ob (dBin .add t1 (.int .i64 1)) fun d5 =>
   ob (R.p F_l05_countPat [(ag7 d4), d5]) fun d6 =>
   ob (dBin .add t5 (.int .i64 1)) fun d7 =>
   P_l05_countPat_4h R d6 d7 b2)
   (some t1))
  (some t1)
  none) := headP_of [] (by kernel_rfl)
theorem call_l05_countPat (x0 x1 : DV) {d : DV} (h : P_l05_countPat (run cfg) x0 x1 = some d) : (run cfg).p F_l05_countPat [x0, x1] = some d := callE Tryz.func85 (by kernel_rfl) (by kernel_rfl) (by kernel_rfl) h
noncomputable def P_r23_duePlain (R : Orc) (x0 : DV) : Option DV := eP Tryz.f86 fl_r23_duePlain R [] (initSt Tryz.f86 [(x0, .val)] [])
noncomputable def P_r23_duePlain_14h (R : Orc) (t3 t4 b1 : DV) : Option DV := hP Tryz.f86 fl_r23_duePlain R [true, true, true, false, true, false] (mst 30 [(3, t3), (4, t4)] [(1, (.loc 1 0))] [(1, some (bxs b1 0 16))] [])
theorem eq_r23_duePlain (R : Orc) (x0 : DV) : P_r23_duePlain R x0 =
 (og (isAggN 16 x0) <|
 ob (dBin .eql (proj 0 x0) (.int .i64 6)) fun d1 =>
 oif d1
  (P_r23_duePlain_14h R (.int .i64 2) (.int .i64 0) x0)
  (ob (dBin .eql (proj 0 x0) (.int .i64 8)) fun d2 =>
  oif d2
   (P_r23_duePlain_14h R (.int .i64 2) (.int .i64 0) x0)
   (ob (dBin .eql (proj 0 x0) (.int .i64 10)) fun d3 =>
   oif d3
    (P_r23_duePlain_14h R (.int .i64 2) (.int .i64 0) x0)
    (ob (dBin .eql (proj 0 x0) (.int .i64 16)) fun d4 =>
    oif d4
     (P_r23_duePlain_14h R (.int .i64 2) (.int .i64 0) x0)
     (ob (dBin .eql (proj 0 x0) (.int .i64 11)) fun d5 =>
     oif d5
      (P_r23_duePlain_14h R (.int .i64 1) (.int .i64 0) x0)
      (ob (dBin .eql (proj 0 x0) (.int .i64 13)) fun d6 =>
      oif d6
       (P_r23_duePlain_14h R (.int .i64 1) (.int .i64 0) x0)
       (ob (dBin .eql (proj 0 x0) (.int .i64 14)) fun d7 =>
       oif d7
        (P_r23_duePlain_14h R (.int .i64 1) (.int .i64 0) x0)
        (ob (dBin .eql (proj 0 x0) (.int .i64 15)) fun d8 =>
        oif d8
         (P_r23_duePlain_14h R (.int .i64 1) (.int .i64 0) x0)
         (P_r23_duePlain_14h R (.int .i64 0) (.int .i64 0) x0))))))))) := evP_of [] (by kernel_rfl)
theorem eq_r23_duePlain_14h (R : Orc) (t3 t4 b1 : DV) : P_r23_duePlain_14h R t3 t4 b1 =
 (ob (dBin .lss t4 t3) fun d1 =>
 oif d1
  (ob (dIdx 16 (proj 15 b1) t4) fun d2 =>
  ob (R.p F_r23_Plain [(ag16 d2)]) fun d3 =>
  ob (dUn .not d3) fun d4 =>
  oif d4
   (some t4)
   (ob (dBin .add t4 (.int .i64 1)) fun d5 =>
   P_r23_duePlain_14h R t3 d5 b1))
  (some (.int .i64 (-1)))) := headP_of [] (by kernel_rfl)
theorem call_r23_duePlain (x0 : DV) {d : DV} (h : P_r23_duePlain (run cfg) x0 = some d) : (run cfg).p F_r23_duePlain [x0] = some d := callE Tryz.func86 (by kernel_rfl) (by kernel_rfl) (by kernel_rfl) h
end Go.Su

/-
 Equations of the program's functions: by program.
-/
namespace Go.Su
open Go.Proofs
set_option linter.unusedVariables false
noncomputable def P_r23_operatePlain (R : Orc) (x0 x1 x2 : DV) : Option DV := eP Tryz.f87 fl_r23_operatePlain R [] (initSt Tryz.f87 [(x0, .val), (x1, .val), (x2, .val)] [])
noncomputable def P_r23_operatePlain_4 (R : Orc) (t8 b3 b4 b5 : DV) : Option DV := eP Tryz.f87 fl_r23_operatePlain R [true, true, true] (mst 64 [(8, t8)] [(3, (.loc 3 0)), (4, (.loc 4 0)), (5, (.loc 5 0)), (6, (.loc 6 0)), (7, (.loc 7 0))] [(3, some (bxs b3 0 16)), (4, some (bxs b4 0 16)), (5, some (bxs b5 0 16)), (6, some zb1), (7, some zb0)] [])
noncomputable def P_r23_operatePlain_9 (R : Orc) (b3 b4 b5 b9_0 b9_1 b9_2 : DV) : Option DV := eP Tryz.f87 fl_r23_operatePlain R [true, true, true, true, true, true] (mst 64 [] [(3, (.loc 3 0)), (4, (.loc 4 0)), (5, (.loc 5 0)), (6, (.loc 6 0)), (7, (.loc 7 0)), (9, (.loc 9 0))] [(3, some (bxs b3 0 16)), (4, some (bxs b4 0 16)), (5, some (bxs b5 0 16)), (6, some zb1), (7, some zb0), (9, some [(b9_0, .val), (b9_1, .val), (b9_2, .val), ((.str ⟨#[]⟩), .val), ((.str ⟨#[]⟩), .val), ((.int .i64 0), .val), ((.str ⟨#[]⟩), .val), ((.int .i64 0), .val), ((.int .i64 0), .val), ((.int .i64 0), .val), ((.list 3 []), .val), ((.int .i64 0), .val), ((.int .i64 0), .val), ((.list 3 []), .val), ((.list 7 []), .val), ((.list 16 []), .val)])] [])
theorem eq_r23_operatePlain (R : Orc) (x0 x1 x2 : DV) : P_r23_operatePlain R x0 x1 x2 =
 (og (isAggN 16 x0) <|
 og (isAggN 16 x1) <|
 og (isAggN 16 x2) <|
 ob (dBin .eql (proj 7 x0) (.int .i64 7)) fun d1 =>
 oif d1
  (P_r23_operatePlain_4 R (.int .i64 4) x0 x1 x2)
  (P_r23_operatePlain_4 R (.int .i64 2) x0 x1 x2)) := evP_of [4, 9] (by kernel_rfl)
theorem eq_r23_operatePlain_4 (R : Orc) (t8 b3 b4 b5 : DV) : P_r23_operatePlain_4 R t8 b3 b4 b5 =
 (ob (dBin .neq (proj 0 b4) t8) fun d1 =>
 ogd d1
  (ob (R.p F_r23_stop []) fun d2 =>
  og (isAggN 15 d2) <|
  some (.tup [(.agg [(.int .i64 0), (.int .i64 0), (.int .i64 0), (.str ⟨#[]⟩), (.str ⟨#[]⟩), (.int .i64 0), (.str ⟨#[]⟩), (.int .i64 0), (.int .i64 0), (.int .i64 0), (.list 3 []), (.int .i64 0), (.int .i64 0), (.list 3 []), (.list 7 []), (.list 16 [])]), (ag15 d2)]))
  (ob (dBin .neq (proj 0 b5) t8) fun d3 =>
  oif d3
   (ob (R.p F_r23_stop []) fun d4 =>
   og (isAggN 15 d4) <|
   some (.tup [(.agg [(.int .i64 0), (.int .i64 0), (.int .i64 0), (.str ⟨#[]⟩), (.str ⟨#[]⟩), (.int .i64 0), (.str ⟨#[]⟩), (.int .i64 0), (.int .i64 0), (.int .i64 0), (.list 3 []), (.int .i64 0), (.int .i64 0), (.list 3 []), (.list 7 []), (.list 16 [])]), (ag15 d4)]))
   (ob (dBin .geq (proj 7 b3) (.int .i64 5)) fun d5 =>
   oif d5
    (P_r23_operatePlain_9 R b3 b4 b5 (.int .i64 3) (proj 1 b3) (proj 2 b3))
    (P_r23_operatePlain_9 R b3 b4 b5 (.int .i64 2) (proj 1 b3) (proj 2 b3))))
  none) := evP_of [4, 9] (by kernel_rfl)
theorem eq_r23_operatePlain_9 (R : Orc) (b3 b4 b5 b9_0 b9_1 b9_2 : DV) : P_r23_operatePlain_9 R b3 b4 b5 b9_0 b9_1 b9_2 =
 (ob (R.p F_r23_Op [(proj 7 b3), (proj 5 b4), (proj 5 b5)]) fun d1 =>
 ob (dExt 0 d1) fun d2 =>
 ob (dExt 1 d1) fun d3 =>
 ob (dUn .not d3) fun d4 =>
 oif d4
  (some (.tup [(.agg [(.int .i64 0), (.int .i64 0), (.int .i64 0), (.str ⟨#[]⟩), (.str ⟨#[]⟩), (.int .i64 0), (.str ⟨#[]⟩), (.int .i64 0), (.int .i64 0), (.int .i64 0), (.list 3 []), (.int .i64 0), (.int .i64 0), (.list 3 []), (.list 7 []), (.list 16 [])]), (.agg [(.int .i64 3), (.int .i64 0), (.int .i64 0), (.str ⟨#[]⟩), (.int .i64 0), (.int .i64 0), (.int .i64 0), (.bool false), (.list 5 []), (.list 9 []), (.int .i64 0), (.bool false), (proj 1 b3), (proj 2 b3), (.int .i64 0)])]))
  (og (isCell d2) <|
  ob (dBin .eql (proj 7 b3) (.int .i64 7)) fun d5 =>
  oif d5
   (ob (dBin .eql (proj 6 b4) (proj 6 b5)) fun d6 =>
   ob (R.p F_r23_truth [d6]) fun d7 =>
   og (isCell d7) <|
   some (.tup [(.agg [b9_0, b9_1, b9_2, (.str ⟨#[]⟩), (.str ⟨#[]⟩), d7, (.str ⟨#[]⟩), (.int .i64 0), (.int .i64 0), (.int .i64 0), (.list 3 []), (.int .i64 0), (.int .i64 0), (.list 3 []), (.list 7 []), (.list 16 [])]), (.agg [(.int .i64 0), (.int .i64 0), (.int .i64 0), (.str ⟨#[]⟩), (.int .i64 0), (.int .i64 0), (.int .i64 0), (.bool false), (.list 5 []), (.list 9 []), (.int .i64 0), (.bool false), (.int .i64 0), (.int .i64 0), (.int .i64 0)])]))
   (some (.tup [(.agg [b9_0, b9_1, b9_2, (.str ⟨#[]⟩), (.str ⟨#[]⟩), d2, (.str ⟨#[]⟩), (.int .i64 0), (.int .i64 0), (.int .i64 0), (.list 3 []), (.int .i64 0), (.int .i64 0), (.list 3 []), (.list 7 []), (.list 16 [])]), (.agg [(.int .i64 0), (.int .i64 0), (.int .i64 0), (.str ⟨#[]⟩), (.int .i64 0), (.int .i64 0), (.int .i64 0), (.bool false), (.list 5 []), (.list 9 []), (.int .i64 0), (.bool false), (.int .i64 0), (.int .i64 0), (.int .i64 0)])])))) := evP_of [4, 9] (by kernel_rfl)
theorem call_r23_operatePlain (x0 x1 x2 : DV) {d : DV} (h : P_r23_operatePlain (run cfg) x0 x1 x2 = some d) : (run cfg).p F_r23_operatePlain [x0, x1, x2] = some d := callE Tryz.func87 (by kernel_rfl) (by kernel_rfl) (by kernel_rfl) h
noncomputable def code_r23_fitsPlain : Code := Tryz.f88.body.getD .skip
noncomputable def P_r23_fitsPlain (R : Orc) (x0 x1 x2 : DV) (sg : List SObj) : Option (List DV × List SObj) := evP cfg R fl_r23_fitsPlain (retR cfg.P Tryz.f88 sig_r23_fitsPlain) [] code_r23_fitsPlain (initSt Tryz.f88 [(x0, .val), (x1, .val), (x2, .own)] sg)
noncomputable def P_r23_fitsPlain_4 (R : Orc) (t2 t10 b3 b4 : DV) (sg : List SObj) : Option (List DV × List SObj) := evP cfg R fl_r23_fitsPlain (retR cfg.P Tryz.f88 sig_r23_fitsPlain) [true, false, true, false, true, true] code_r23_fitsPlain (mst 119 [(2, t2), (10, t10)] [(2, .own), (3, (.loc 3 0)), (4, (.loc 4 0))] [(3, some (bxs b3 0 7)), (4, some (bxs b4 0 16))] sg)
noncomputable def P_r23_fitsPlain_10 (R : Orc) (t2 t10 b3 b4 : DV) (sg : List SObj) : Option (List DV × List SObj) := evP cfg R fl_r23_fitsPlain (retR cfg.P Tryz.f88 sig_r23_fitsPlain) [true, false, true, false, true, true, true, true, true, true, true, true] code_r23_fitsPlain (mst 119 [(2, t2), (10, t10)] [(2, .own), (3, (.loc 3 0)), (4, (.loc 4 0))] [(3, some (bxs b3 0 7)), (4, some (bxs b4 0 16))] sg)
noncomputable def P_r23_fitsPlain_18 (R : Orc) (t2 b3 b4 : DV) (sg : List SObj) : Option (List DV × List SObj) := evP cfg R fl_r23_fitsPlain (retR cfg.P Tryz.f88 sig_r23_fitsPlain) [true, true, true] code_r23_fitsPlain (mst 119 [(2, t2)] [(2, .own), (3, (.loc 3 0)), (4, (.loc 4 0))] [(3, some (bxs b3 0 7)), (4, some (bxs b4 0 16))] sg)
theorem eq_r23_fitsPlain (R : Orc) (x0 x1 x2 : DV) (sg : List SObj) : P_r23_fitsPlain R x0 x1 x2 sg =
 (og (isAggN 7 x0) <|
 og (isAggN 16 x1) <|
 ob (dBin .eql (proj 0 x0) (.int .i64 1)) fun d1 =>
 oif d1
  (some ([x2, (.bool true)], sg))
  (P_r23_fitsPlain_4 R x2 (proj 0 x0) x0 x1 sg)) := evP_of [4, 10, 18] (by kernel_rfl)
set_option maxRecDepth 100000 in
theorem eq_r23_fitsPlain_4 (R : Orc) (t2 t10 b3 b4 : DV) (sg : List SObj) : P_r23_fitsPlain_4 R t2 t10 b3 b4 sg =
 (ob (dBin .eql t10 (.int .i64 2)) fun d1 =>
 oif d1
  (og (isCell (proj 3 b3)) <|
  ob (dApp 17 t2 (.list 17 [(.agg [(proj 3 b3), (proj 0 b4), (proj 1 b4), (proj 2 b4), (proj 3 b4), (proj 4 b4), (proj 5 b4), (proj 6 b4), (proj 7 b4), (proj 8 b4), (proj 9 b4), (proj 10 b4), (proj 11 b4), (proj 12 b4), (proj 13 b4), (proj 14 b4), (proj 15 b4)])])) fun d2 =>
  some ([d2, (.bool true)], sg))
  (ob (dBin .eql t10 (.int .i64 3)) fun d3 =>
  oif d3
   (ob (dBin .eql (proj 0 b4) (.int .i64 2)) fun d4 =>
   ogd d4
    (ob (dBin .eql (proj 5 b4) (proj 4 b3)) fun d5 =>
    some ([t2, d5], sg))
    (some ([t2, (.bool false)], sg))
    none)
   (ob (dBin .eql t10 (.int .i64 4)) fun d6 =>
   oif d6
    (ob (dBin .eql (proj 0 b4) (.int .i64 3)) fun d7 =>
    ogd d7
     (ob (dBin .eql (proj 5 b4) (proj 4 b3)) fun d8 =>
     some ([t2, d8], sg))
     (some ([t2, (.bool false)], sg))
     none)
    (P_r23_fitsPlain_10 R t2 t10 b3 b4 sg)))) := evP_of [4, 10, 18] (by kernel_rfl)
set_option maxRecDepth 100000 in
theorem eq_r23_fitsPlain_10 (R : Orc) (t2 t10 b3 b4 : DV) (sg : List SObj) : P_r23_fitsPlain_10 R t2 t10 b3 b4 sg =
 (ob (dBin .eql t10 (.int .i64 5)) fun d1 =>
 oif d1
  (ob (dBin .eql (proj 0 b4) (.int .i64 4)) fun d2 =>
  ogd d2
   (ob (dBin .eql (proj 6 b4) (proj 5 b3)) fun d3 =>
   some ([t2, d3], sg))
   (some ([t2, (.bool false)], sg))
   none)
  (ob (dBin .eql t10 (.int .i64 6)) fun d4 =>
  oif d4
   (ob (dBin .eql (proj 0 b4) (.int .i64 5)) fun d5 =>
   some ([t2, d5], sg))
   (ob (dBin .eql t10 (.int .i64 8)) fun d6 =>
   oif d6
    (ob (dBin .eql (proj 0 b4) (.int .i64 7)) fun d7 =>
    some ([t2, d7], sg))
    (ob (dBin .eql (proj 0 b3) (.int .i64 7)) fun d8 =>
    ogd d8
     (ob (dBin .neq (proj 0 b4) (.int .i64 6)) fun d9 =>
     ogd d9
      (some ([(.list 17 []), (.bool false)], sg))
      (ob (dBin .eql (proj 0 b3) (.int .i64 9)) fun d10 =>
      ogd d10
       (ob (dBin .neq (proj 0 b4) (.int .i64 8)) fun d11 =>
       oif d11
        (some ([(.list 17 []), (.bool false)], sg))
        (P_r23_fitsPlain_18 R t2 b3 b4 sg))
       (P_r23_fitsPlain_18 R t2 b3 b4 sg)
       none)
      none)
     (ob (dBin .eql (proj 0 b3) (.int .i64 9)) fun d12 =>
     ogd d12
      (ob (dBin .neq (proj 0 b4) (.int .i64 8)) fun d13 =>
      oif d13
       (some ([(.list 17 []), (.bool false)], sg))
       (P_r23_fitsPlain_18 R t2 b3 b4 sg))
      (P_r23_fitsPlain_18 R t2 b3 b4 sg)
      none)
     none)))) := evP_of [4, 10, 18] (by kernel_rfl)
theorem eq_r23_fitsPlain_18 (R : Orc) (t2 b3 b4 : DV) (sg : List SObj) : P_r23_fitsPlain_18 R t2 b3 b4 sg =
 (ob (dIdx 7 (proj 6 b3) (.int .i64 0)) fun d1 =>
 ob (dIdx 16 (proj 15 b4) (.int .i64 0)) fun d2 =>
 ob (R.r F_r23_fitsPlain [((ag7 d1), .val), ((ag16 d2), .val), (t2, .own)] sg) fun q3 =>
 ob (dExt 0 (.tup q3.1)) fun d4 =>
 ob (dExt 1 (.tup q3.1)) fun d5 =>
 ob (dUn .not d5) fun d6 =>
 oif d6
  (some ([(.list 17 []), (.bool false)], q3.2))
  (ob (dIdx 7 (proj 6 b3) (.int .i64 1)) fun d7 =>
  ob (dIdx 16 (proj 15 b4) (.int .i64 1)) fun d8 =>
  ob (R.r F_r23_fitsPlain [((ag7 d7), .val), ((ag16 d8), .val), (d4, .own)] q3.2) fun q9 =>
  ob (dExt 0 (.tup q9.1)) fun d10 =>
  ob (dExt 1 (.tup q9.1)) fun d11 =>
  some ([d10, d11], q9.2))) := evP_of [4, 10, 18] (by kernel_rfl)
theorem fix_r23_fitsPlain (x0 x1 x2 : DV) (sg : List SObj) : (run cfg).r F_r23_fitsPlain [(x0, .val), (x1, .val), (x2, .own)] sg = P_r23_fitsPlain (run cfg) x0 x1 x2 sg :=
 (fix_raw (C := cfg) (f := F_r23_fitsPlain) (s := sig_r23_fitsPlain) (fn := Tryz.f88) (c := code_r23_fitsPlain) (by kernel_rfl) Tryz.func88 (by kernel_rfl)).trans (by kernel_rfl)
theorem call_r23_fitsPlain (x0 x1 x2 : DV) (sg : List SObj) {q : List DV × List SObj} (h : P_r23_fitsPlain (run cfg) x0 x1 x2 sg = some q) : (run cfg).r F_r23_fitsPlain [(x0, .val), (x1, .val), (x2, .own)] sg = some q := (fix_r23_fitsPlain x0 x1 x2 sg).trans h
noncomputable def P_tree_Free (R : Orc) (x0 : DV) : Option DV := evP cfg R fl_tree_Free (keyK cfg R fl_tree_Free kp_tree_Free cut_tree_Free.post (retP cfg.P Tryz.f89)) [] (seqs cut_tree_Free.pre .skip) (initSt Tryz.f89 [(x0, .val)] [])
theorem eq_tree_Free (R : Orc) (x0 : DV) : P_tree_Free R x0 =
 (og (isAggN 16 x0) <|
 ob (R.p F_tree_Check [(ag16 x0)]) fun d1 =>
 ob (dBin .neq d1 (.int .i64 0)) fun d2 =>
 oif d2
  (some (.list 1 []))
  (ob (R.r F_tree_scope_look [(.undef, (.ptr 2 0)), ((ag16 x0), .val)] [.map true [], .map true [], SObj.box [(.undef, (.map 0)), (.undef, (.map 1))]]) fun q3 =>
  ob (sgBox q3.2 2) fun c4 =>
  ob (cellMap c4 1) fun i5 =>
  ob (sgMap q3.2 i5) fun m6 =>
  og (m6.1 && true && true) <|
  if m6.2.length ≤ lim then
   (some (sortKeys m6.2))
  else none)) := evP_of [] (by kernel_rfl)
theorem fix_tree_Free (x0 : DV) : (run cfg).p F_tree_Free [x0] = P_tree_Free (run cfg) x0 :=
 (fix_cut (C := cfg) (f := F_tree_Free) (fn := Tryz.f89) (c := kc_tree_Free) (p := cut_tree_Free) rfl Tryz.func89 (by kernel_rfl)).trans ((congrArg (fun k => evP cfg (run cfg) fl_tree_Free k [] (seqs cut_tree_Free.pre .skip) (initSt Tryz.f89 ([x0].map fun d => (d, .val)) [])) (keyK_eq (q := kp_tree_Free) (p := cut_tree_Free) (by kernel_rfl))).trans (by kernel_rfl))
theorem call_tree_Free (x0 : DV) {d : DV} (h : P_tree_Free (run cfg) x0 = some d) : (run cfg).p F_tree_Free [x0] = some d := (fix_tree_Free x0).trans h
noncomputable def P_erase_many (R : Orc) (x0 : DV) : Option DV := eP Tryz.f90 fl_erase_many R [] (initSt Tryz.f90 [(x0, .val)] [])
theorem eq_erase_many (R : Orc) (x0 : DV) : P_erase_many R x0 =
 (ob (dBin .eql x0 (.int .i64 6)) fun d1 =>
 oif d1
  (some (.int .i64 2))
  (ob (dBin .eql x0 (.int .i64 8)) fun d2 =>
  oif d2
   (some (.int .i64 2))
   (ob (dBin .eql x0 (.int .i64 10)) fun d3 =>
   oif d3
    (some (.int .i64 2))
    (ob (dBin .eql x0 (.int .i64 16)) fun d4 =>
    oif d4
     (some (.int .i64 2))
     (ob (dBin .eql x0 (.int .i64 11)) fun d5 =>
     oif d5
      (some (.int .i64 1))
      (ob (dBin .eql x0 (.int .i64 13)) fun d6 =>
      oif d6
       (some (.int .i64 1))
       (ob (dBin .eql x0 (.int .i64 14)) fun d7 =>
       oif d7
        (some (.int .i64 1))
        (ob (dBin .eql x0 (.int .i64 15)) fun d8 =>
        oif d8
         (some (.int .i64 1))
         (some (.int .i64 0)))))))))) := evP_of [] (by kernel_rfl)
theorem call_erase_many (x0 : DV) {d : DV} (h : P_erase_many (run cfg) x0 = some d) : (run cfg).p F_erase_many [x0] = some d := callE Tryz.func90 (by kernel_rfl) (by kernel_rfl) (by kernel_rfl) h
noncomputable def P_erase_rec (R : Orc) (x0 : DV) : Option DV := eP Tryz.f92 fl_erase_rec R [] (initSt Tryz.f92 [(x0, .val)] [])
theorem eq_erase_rec (R : Orc) (x0 : DV) : P_erase_rec R x0 =
 (og (isAggN 16 x0) <|
 ob (dIdx 16 (proj 15 x0) (.int .i64 0)) fun d1 =>
 ob (dBin .neq (proj 3 x0) (proj 4 x0)) fun d2 =>
 oif d2
  (og (isCell (proj 3 x0)) <|
  og (isCell (proj 4 x0)) <|
  og (isCell (proj 4 x0)) <|
  some (.agg [(.int .i64 9), (.int .i64 0), (.int .i64 0), (proj 4 x0), (.str ⟨#[]⟩), (.int .i64 0), (.str ⟨#[]⟩), (.int .i64 0), (.int .i64 0), (.int .i64 0), (.list 3 []), (.int .i64 0), (.int .i64 0), (.list 3 []), (.list 7 []), (.list 16 [(.agg [(.int .i64 12), (.int .i64 0), (.int .i64 0), (proj 3 x0), (proj 4 x0), (.int .i64 0), (.str ⟨#[]⟩), (.int .i64 0), (.int .i64 0), (.int .i64 0), (.list 3 []), (.int .i64 0), (.int .i64 0), (.list 3 []), (.list 7 []), (.list 16 [(ag16 d1), (ag16 d1)])])])]))
  (og (isCell (proj 4 x0)) <|
  some (.agg [(.int .i64 9), (.int .i64 0), (.int .i64 0), (proj 4 x0), (.str ⟨#[]⟩), (.int .i64 0), (.str ⟨#[]⟩), (.int .i64 0), (.int .i64 0), (.int .i64 0), (.list 3 []), (.int .i64 0), (.int .i64 0), (.list 3 []), (.list 7 []), (.list 16 [(ag16 d1)])]))) := evP_of [] (by kernel_rfl)
theorem call_erase_rec (x0 : DV) {d : DV} (h : P_erase_rec (run cfg) x0 = some d) : (run cfg).p F_erase_rec [x0] = some d := callE Tryz.func92 (by kernel_rfl) (by kernel_rfl) (by kernel_rfl) h
noncomputable def P_erase_operate (R : Orc) (x0 x1 x2 : DV) : Option DV := eP Tryz.f93 fl_erase_operate R [] (initSt Tryz.f93 [(x0, .val), (x1, .val), (x2, .val)] [])
noncomputable def P_erase_operate_4 (R : Orc) (t8 b3 b4 b5 : DV) : Option DV := eP Tryz.f93 fl_erase_operate R [true, true, true] (mst 103 [(8, t8)] [(3, (.loc 3 0)), (4, (.loc 4 0)), (5, (.loc 5 0)), (6, (.loc 6 0)), (7, (.loc 7 0))] [(3, some (bxs b3 0 16)), (4, some (bxs b4 0 16)), (5, some (bxs b5 0 16)), (6, some zb1), (7, some zb0)] [])
noncomputable def P_erase_operate_27 (R : Orc) (t10 b9_1 b9_2 : DV) : Option DV := eP Tryz.f93 fl_erase_operate R [true, true, true, true, true, true] (mst 103 [(10, t10)] [(6, (.loc 6 0)), (7, (.loc 7 0)), (9, (.loc 9 0))] [(6, some zb1), (7, some zb0), (9, some [((.int .i64 2), .val), (b9_1, .val), (b9_2, .val), ((.str ⟨#[]⟩), .val), ((.str ⟨#[]⟩), .val), ((.int .i64 0), .val), ((.str ⟨#[]⟩), .val), ((.int .i64 0), .val), ((.int .i64 0), .val), ((.int .i64 0), .val), ((.list 3 []), .val), ((.int .i64 0), .val), ((.int .i64 0), .val), ((.list 3 []), .val), ((.list 7 []), .val), ((.list 16 []), .val)])] [])
theorem eq_erase_operate (R : Orc) (x0 x1 x2 : DV) : P_erase_operate R x0 x1 x2 =
 (og (isAggN 16 x0) <|
 og (isAggN 16 x1) <|
 og (isAggN 16 x2) <|
 ob (dBin .eql (proj 7 x0) (.int .i64 7)) fun d1 =>
 oif d1
  (P_erase_operate_4 R (.int .i64 4) x0 x1 x2)
  (P_erase_operate_4 R (.int .i64 2) x0 x1 x2)) := evP_of [4, 27] (by kernel_rfl)
set_option maxRecDepth 100000 in
theorem eq_erase_operate_4 (R : Orc) (t8 b3 b4 b5 : DV) : P_erase_operate_4 R t8 b3 b4 b5 =
 (ob (dBin .neq (proj 0 b4) t8) fun d1 =>
 ogd d1
  (ob (R.p F_erase_stuck []) fun d2 =>
  ob (dExt 0 d2) fun d3 =>
  ob (dExt 1 d2) fun d4 =>
  og (isAggN 16 d3) <|
  og (isAggN 15 d4) <|
  some (.tup [(ag16 d3), (ag15 d4)]))
  (ob (dBin .neq (proj 0 b5) t8) fun d5 =>
  oif d5
   (ob (R.p F_erase_stuck []) fun d6 =>
   ob (dExt 0 d6) fun d7 =>
   ob (dExt 1 d6) fun d8 =>
   og (isAggN 16 d7) <|
   og (isAggN 15 d8) <|
   some (.tup [(ag16 d7), (ag15 d8)]))
   (ob (dBin .eql (proj 7 b3) (.int .i64 1)) fun d9 =>
   oif d9
    (ob (dBin .add (proj 5 b4) (proj 5 b5)) fun d10 =>
    og (isCell d10) <|
    some (.tup [(.agg [(.int .i64 2), (proj 1 b3), (proj 2 b3), (.str ⟨#[]⟩), (.str ⟨#[]⟩), d10, (.str ⟨#[]⟩), (.int .i64 0), (.int .i64 0), (.int .i64 0), (.list 3 []), (.int .i64 0), (.int .i64 0), (.list 3 []), (.list 7 []), (.list 16 [])]), (.agg [(.int .i64 0), (.int .i64 0), (.int .i64 0), (.str ⟨#[]⟩), (.int .i64 0), (.int .i64 0), (.int .i64 0), (.bool false), (.list 5 []), (.list 9 []), (.int .i64 0), (.bool false), (.int .i64 0), (.int .i64 0), (.int .i64 0)])]))
    (ob (dBin .eql (proj 7 b3) (.int .i64 2)) fun d11 =>
    oif d11
     (ob (dBin .sub (proj 5 b4) (proj 5 b5)) fun d12 =>
     og (isCell d12) <|
     some (.tup [(.agg [(.int .i64 2), (proj 1 b3), (proj 2 b3), (.str ⟨#[]⟩), (.str ⟨#[]⟩), d12, (.str ⟨#[]⟩), (.int .i64 0), (.int .i64 0), (.int .i64 0), (.list 3 []), (.int .i64 0), (.int .i64 0), (.list 3 []), (.list 7 []), (.list 16 [])]), (.agg [(.int .i64 0), (.int .i64 0), (.int .i64 0), (.str ⟨#[]⟩), (.int .i64 0), (.int .i64 0), (.int .i64 0), (.bool false), (.list 5 []), (.list 9 []), (.int .i64 0), (.bool false), (.int .i64 0), (.int .i64 0), (.int .i64 0)])]))
     (ob (dBin .eql (proj 7 b3) (.int .i64 3)) fun d13 =>
     oif d13
      (ob (dBin .mul (proj 5 b4) (proj 5 b5)) fun d14 =>
      og (isCell d14) <|
      some (.tup [(.agg [(.int .i64 2), (proj 1 b3), (proj 2 b3), (.str ⟨#[]⟩), (.str ⟨#[]⟩), d14, (.str ⟨#[]⟩), (.int .i64 0), (.int .i64 0), (.int .i64 0), (.list 3 []), (.int .i64 0), (.int .i64 0), (.list 3 []), (.list 7 []), (.list 16 [])]), (.agg [(.int .i64 0), (.int .i64 0), (.int .i64 0), (.str ⟨#[]⟩), (.int .i64 0), (.int .i64 0), (.int .i64 0), (.bool false), (.list 5 []), (.list 9 []), (.int .i64 0), (.bool false), (.int .i64 0), (.int .i64 0), (.int .i64 0)])]))
      (ob (dBin .eql (proj 7 b3) (.int .i64 4)) fun d15 =>
      oif d15
       (ob (dBin .eql (proj 5 b5) (.int .i64 0)) fun d16 =>
       oif d16
        (some (.tup [(.agg [(.int .i64 0), (.int .i64 0), (.int .i64 0), (.str ⟨#[]⟩), (.str ⟨#[]⟩), (.int .i64 0), (.str ⟨#[]⟩), (.int .i64 0), (.int .i64 0), (.int .i64 0), (.list 3 []), (.int .i64 0), (.int .i64 0), (.list 3 []), (.list 7 []), (.list 16 [])]), (.agg [(.int .i64 3), (.int .i64 0), (.int .i64 0), (.str ⟨#[]⟩), (.int .i64 0), (.int .i64 0), (.int .i64 0), (.bool false), (.list 5 []), (.list 9 []), (.int .i64 0), (.bool false), (proj 1 b3), (proj 2 b3), (.int .i64 0)])]))
        (ob (dBin .quo (proj 5 b4) (proj 5 b5)) fun d17 =>
        og (isCell d17) <|
        some (.tup [(.agg [(.int .i64 2), (proj 1 b3), (proj 2 b3), (.str ⟨#[]⟩), (.str ⟨#[]⟩), d17, (.str ⟨#[]⟩), (.int .i64 0), (.int .i64 0), (.int .i64 0), (.list 3 []), (.int .i64 0), (.int .i64 0), (.list 3 []), (.list 7 []), (.list 16 [])]), (.agg [(.int .i64 0), (.int .i64 0), (.int .i64 0), (.str ⟨#[]⟩), (.int .i64 0), (.int .i64 0), (.int .i64 0), (.bool false), (.list 5 []), (.list 9 []), (.int .i64 0), (.bool false), (.int .i64 0), (.int .i64 0), (.int .i64 0)])])))
       (ob (dBin .eql (proj 7 b3) (.int .i64 5)) fun d18 =>
       oif d18
        (ob (dBin .lss (proj 5 b4) (proj 5 b5)) fun d19 =>
        P_erase_operate_27 R d19 (proj 1 b3) (proj 2 b3))
        (ob (dBin .eql (proj 7 b3) (.int .i64 6)) fun d20 =>
        oif d20
         (ob (dBin .eql (proj 5 b4) (proj 5 b5)) fun d21 =>
         P_erase_operate_27 R d21 (proj 1 b3) (proj 2 b3))
         (ob (dBin .eql (proj 6 b4) (proj 6 b5)) fun d22 =>
         P_erase_operate_27 R d22 (proj 1 b3) (proj 2 b3)))))))))
  none) := evP_of [4, 27] (by kernel_rfl)
theorem eq_erase_operate_27 (R : Orc) (t10 b9_1 b9_2 : DV) : P_erase_operate_27 R t10 b9_1 b9_2 =
 (oif t10
  (some (.tup [(.agg [(.int .i64 3), b9_1, b9_2, (.str ⟨#[]⟩), (.str ⟨#[]⟩), (.int .i64 1), (.str ⟨#[]⟩), (.int .i64 0), (.int .i64 0), (.int .i64 0), (.list 3 []), (.int .i64 0), (.int .i64 0), (.list 3 []), (.list 7 []), (.list 16 [])]), (.agg [(.int .i64 0), (.int .i64 0), (.int .i64 0), (.str ⟨#[]⟩), (.int .i64 0), (.int .i64 0), (.int .i64 0), (.bool false), (.list 5 []), (.list 9 []), (.int .i64 0), (.bool false), (.int .i64 0), (.int .i64 0), (.int .i64 0)])]))
  (some (.tup [(.agg [(.int .i64 3), b9_1, b9_2, (.str ⟨#[]⟩), (.str ⟨#[]⟩), (.int .i64 0), (.str ⟨#[]⟩), (.int .i64 0), (.int .i64 0), (.int .i64 0), (.list 3 []), (.int .i64 0), (.int .i64 0), (.list 3 []), (.list 7 []), (.list 16 [])]), (.agg [(.int .i64 0), (.int .i64 0), (.int .i64 0), (.str ⟨#[]⟩), (.int .i64 0), (.int .i64 0), (.int .i64 0), (.bool false), (.list 5 []), (.list 9 []), (.int .i64 0), (.bool false), (.int .i64 0), (.int .i64 0), (.int .i64 0)])]))) := evP_of [4, 27] (by kernel_rfl)
theorem call_erase_operate (x0 x1 x2 : DV) {d : DV} (h : P_erase_operate (run cfg) x0 x1 x2 = some d) : (run cfg).p F_erase_operate [x0, x1, x2] = some d := callE Tryz.func93 (by kernel_rfl) (by kernel_rfl) (by kernel_rfl) h
noncomputable def P_erase_match (R : Orc) (x0 : DV) : Option DV := eP Tryz.f94 fl_erase_match R [] (initSt Tryz.f94 [(x0, .val)] [])
noncomputable def P_erase_match_2h (R : Orc) (t12 t13 b1 : DV) : Option DV := hP Tryz.f94 fl_erase_match R [true, false, true, false] (mst 56 [(12, t12), (13, t13), (14, (.int .i64 0))] [(1, (.loc 1 0)), (2, (.loc 2 0)), (3, (.loc 3 0))] [(1, some (bxs b1 0 16)), (2, some zb1), (3, some zb0)] [])
noncomputable def P_erase_match_2hb (R : Orc) (t12 t13 t14 b1 : DV) (sg : List SObj) : Option DV := hP Tryz.f94 fl_erase_match R [true, false, true, false] (mst 56 [(12, t12), (13, t13), (14, t14)] [(1, (.loc 1 0)), (2, (.loc 2 0)), (3, (.loc 3 0))] [(1, some (bxs b1 0 16)), (2, some zb1), (3, some zb0)] sg)
noncomputable def P_erase_match_8h (R : Orc) (t36 t37 t38 b8 : DV) (sg : List SObj) : Option DV := hP Tryz.f94 fl_erase_match R [true, false, true, false, false, true, true, false, false, true, true, true, true, false, true, false] (mst 56 [(36, t36), (37, t37), (38, t38)] [(2, (.loc 2 0)), (3, (.loc 3 0)), (8, (.loc 8 0))] [(2, some zb1), (3, some zb0), (8, some (bxs b8 0 16))] sg)
theorem eq_erase_match (R : Orc) (x0 : DV) : P_erase_match R x0 =
 (og (isAggN 16 x0) <|
 ob (dLen (proj 14 x0)) fun d1 =>
 P_erase_match_2h R (proj 14 x0) d1 x0) := evP_of [] (by kernel_rfl)
theorem eq_erase_match_2h (R : Orc) (t12 t13 b1 : DV) : P_erase_match_2h R t12 t13 b1 =
 (ob (dBin .lss (.int .i64 0) t13) fun d1 =>
 oif d1
  (ob (dIdx 7 t12 (.int .i64 0)) fun d2 =>
  ob (dIdx 16 (proj 15 b1) (.int .i64 0)) fun d3 =>
  ob (R.r F_erase_matches [((ag7 d2), .val), ((ag16 d3), .val), ((.list 17 []), .own)] []) fun q4 =>
  ob (dExt 0 (.tup q4.1)) fun d5 =>
  ob (dExt 1 (.tup q4.1)) fun d6 =>
  ob (dUn .not d6) fun d7 =>
  oif d7
   (ob (dBin .add (.int .i64 0) (.int .i64 1)) fun d8 =>
   P_erase_match_2hb R t12 t13 d8 b1 q4.2)
   (ob (dBin .add (.int .i64 0) (.int .i64 1)) fun d9 =>
   ob (dIdx 16 (proj 15 b1) d9) fun d10 =>
   ob (dLen d5) fun d11 =>
   P_erase_match_8h R d5 d11 (.int .i64 0) d10 q4.2))
  (some (.tup [(.agg [(.int .i64 0), (.int .i64 0), (.int .i64 0), (.str ⟨#[]⟩), (.str ⟨#[]⟩), (.int .i64 0), (.str ⟨#[]⟩), (.int .i64 0), (.int .i64 0), (.int .i64 0), (.list 3 []), (.int .i64 0), (.int .i64 0), (.list 3 []), (.list 7 []), (.list 16 [])]), (.agg [(.int .i64 4), (.int .i64 0), (.int .i64 0), (.str ⟨#[]⟩), (.int .i64 0), (.int .i64 0), (.int .i64 0), (.bool false), (.list 5 []), (.list 9 []), (.int .i64 0), (.bool false), (proj 1 b1), (proj 2 b1), (.int .i64 0)])]))) := headP_of [] (by kernel_rfl)
theorem eq_erase_match_2hb (R : Orc) (t12 t13 t14 b1 : DV) (sg : List SObj) : P_erase_match_2hb R t12 t13 t14 b1 sg =
 (ob (dBin .lss t14 t13) fun d1 =>
 oif d1
  (ob (dIdx 7 t12 t14) fun d2 =>
  ob (dIdx 16 (proj 15 b1) (.int .i64 0)) fun d3 =>
  ob (R.r F_erase_matches [((ag7 d2), .val), ((ag16 d3), .val), ((.list 17 []), .own)] sg) fun q4 =>
  ob (dExt 0 (.tup q4.1)) fun d5 =>
  ob (dExt 1 (.tup q4.1)) fun d6 =>
  ob (dUn .not d6) fun d7 =>
  oif d7
   (ob (dBin .add t14 (.int .i64 1)) fun d8 =>
   P_erase_match_2hb R t12 t13 d8 b1 q4.2)
   (ob (dBin .add t14 (.int .i64 1)) fun d9 =>
   ob (dIdx 16 (proj 15 b1) d9) fun d10 =>
   ob (dLen d5) fun d11 =>
   P_erase_match_8h R d5 d11 (.int .i64 0) d10 q4.2))
  (some (.tup [(.agg [(.int .i64 0), (.int .i64 0), (.int .i64 0), (.str ⟨#[]⟩), (.str ⟨#[]⟩), (.int .i64 0), (.str ⟨#[]⟩), (.int .i64 0), (.int .i64 0), (.int .i64 0), (.list 3 []), (.int .i64 0), (.int .i64 0), (.list 3 []), (.list 7 []), (.list 16 [])]), (.agg [(.int .i64 4), (.int .i64 0), (.int .i64 0), (.str ⟨#[]⟩), (.int .i64 0), (.int .i64 0), (.int .i64 0), (.bool false), (.list 5 []), (.list 9 []), (.int .i64 0), (.bool false), (proj 1 b1), (proj 2 b1), (.int .i64 0)])]))) := headP_of [] (by kernel_rfl)
theorem eq_erase_match_8h (R : Orc) (t36 t37 t38 b8 : DV) (sg : List SObj) : P_erase_match_8h R t36 t37 t38 b8 sg =
 (ob (dBin .lss t38 t37) fun d1 =>
 oif d1
  (ob (dIdx 17 t36 t38) fun d2 =>
  ob (R.p F_erase_put [(ag16 b8), (proj 0 d2), (.agg [(proj 1 d2), (proj 2 d2), (proj 3 d2), (proj 4 d2), (proj 5 d2), (proj 6 d2), (proj 7 d2), (proj 8 d2), (proj 9 d2), (proj 10 d2), (proj 11 d2), (proj 12 d2), (proj 13 d2), (proj 14 d2), (proj 15 d2), (proj 16 d2)])]) fun d3 =>
  og (isAggN 16 d3) <|
  ob (dBin .add t38 (.int .i64 1)) fun d4 =>
  P_erase_match_8h R t36 t37 d4 d3 sg)
  (some (.tup [(ag16 b8), (.agg [(.int .i64 0), (.int .i64 0), (.int .i64 0), (.str ⟨#[]⟩), (.int .i64 0), (.int .i64 0), (.int .i64 0), (.bool false), (.list 5 []), (.list 9 []), (.int .i64 0), (.bool false), (.int .i64 0), (.int .i64 0), (.int .i64 0)])]))) := headP_of [] (by kernel_rfl)
theorem call_erase_match (x0 : DV) {d : DV} (h : P_erase_match (run cfg) x0 = some d) : (run cfg).p F_erase_match [x0] = some d := callE Tryz.func94 (by kernel_rfl) (by kernel_rfl) (by kernel_rfl) h
end Go.Su

/-
 Equations of the program's functions: by program.
-/
namespace Go.Su
open Go.Proofs
set_option linter.unusedVariables false
noncomputable def P_tree_one (R : Orc) (x0 : DV) : Option DV := eP Tryz.f96 fl_tree_one R [] (initSt Tryz.f96 [(x0, .val)] [])
noncomputable def P_tree_one_4 (R : Orc) (b1 b3 : DV) : Option DV := eP Tryz.f96 fl_tree_one R [true, true, false, false, true, true] (mst 186 [] [(1, (.loc 1 0)), (3, (.loc 3 0))] [(1, some (bxs b1 0 16)), (3, some (bxs b3 0 9))] [])
noncomputable def P_tree_one_6 (R : Orc) (b1 b3 : DV) : Option DV := eP Tryz.f96 fl_tree_one R [true, true, false, false, true, true, true, true] (mst 186 [] [(1, (.loc 1 0)), (3, (.loc 3 0))] [(1, some (bxs b1 0 16)), (3, some (bxs b3 0 9))] [])
noncomputable def P_tree_one_8 (R : Orc) (b1 b3 : DV) : Option DV := eP Tryz.f96 fl_tree_one R [true, true, false, false, true, true, true, true, true, true] (mst 186 [] [(1, (.loc 1 0)), (3, (.loc 3 0))] [(1, some (bxs b1 0 16)), (3, some (bxs b3 0 9))] [])
noncomputable def P_tree_one_10 (R : Orc) (b1 b3 : DV) : Option DV := eP Tryz.f96 fl_tree_one R [true, true, false, false, true, true, true, true, true, true, true, true] (mst 186 [] [(1, (.loc 1 0)), (3, (.loc 3 0))] [(1, some (bxs b1 0 16)), (3, some (bxs b3 0 9))] [])
noncomputable def P_tree_one_12 (R : Orc) (b1 b3 : DV) : Option DV := eP Tryz.f96 fl_tree_one R [true, true, false, false, true, true, true, true, true, true, true, true, true, true] (mst 186 [] [(1, (.loc 1 0)), (3, (.loc 3 0))] [(1, some (bxs b1 0 16)), (3, some (bxs b3 0 9))] [])
noncomputable def P_tree_one_14 (R : Orc) (b1 b3 : DV) : Option DV := eP Tryz.f96 fl_tree_one R [true, true, false, false, true, true, true, true, true, true, true, true, true, true, true, true] (mst 186 [] [(1, (.loc 1 0)), (3, (.loc 3 0))] [(1, some (bxs b1 0 16)), (3, some (bxs b3 0 9))] [])
noncomputable def P_tree_one_16 (R : Orc) (b1 b3 : DV) : Option DV := eP Tryz.f96 fl_tree_one R [true, true, false, false, true, true, true, true, true, true, true, true, true, true, true, true, true, true] (mst 186 [] [(1, (.loc 1 0)), (3, (.loc 3 0))] [(1, some (bxs b1 0 16)), (3, some (bxs b3 0 9))] [])
noncomputable def P_tree_one_18 (R : Orc) (b1 : DV) : Option DV := eP Tryz.f96 fl_tree_one R [true, true, true] (mst 186 [] [(1, (.loc 1 0))] [(1, some (bxs b1 0 16))] [])
noncomputable def P_tree_one_19h (R : Orc) (t176 t177 t178 : DV) : Option DV := hP Tryz.f96 fl_tree_one R [true, true, true, false, true, false] (mst 186 [(176, t176), (177, t177), (178, t178)] [] [] [])
set_option maxRecDepth 100000 in
theorem eq_tree_one (R : Orc) (x0 : DV) : P_tree_one R x0 =
 (og (isAggN 16 x0) <|
 ob (R.p F_tree_shapeOf [(ag16 x0)]) fun d1 =>
 ob (dExt 0 d1) fun d2 =>
 ob (dExt 1 d1) fun d3 =>
 og (isAggN 9 d2) <|
 ob (dUn .not d3) fun d4 =>
 ogd d4
  (some (.bool false))
  (ob (dLen (proj 15 x0)) fun d5 =>
  ob (dBin .neq d5 (proj 8 d2)) fun d6 =>
  ogd d6
   (some (.bool false))
   (ob (dBin .neq (proj 0 x0) (.int .i64 14)) fun d7 =>
   ogd d7
    (ob (dLen (proj 14 x0)) fun d8 =>
    ob (dBin .gtr d8 (.int .i64 0)) fun d9 =>
    oif d9
     (some (.bool false))
     (P_tree_one_4 R x0 d2))
    (P_tree_one_4 R x0 d2)
    none)
   none)
  none) := evP_of [4, 6, 8, 10, 12, 14, 16, 18] (by kernel_rfl)
set_option maxRecDepth 100000 in
theorem eq_tree_one_4 (R : Orc) (b1 b3 : DV) : P_tree_one_4 R b1 b3 =
 (ogd (proj 0 b3)
  (ob (R.p F_word_Name [(proj 3 b1)]) fun d1 =>
  ob (dUn .not d1) fun d2 =>
  ogd d2
   (some (.bool false))
   (ob (dUn .not (proj 0 b3)) fun d3 =>
   ogd d3
    (ob (dBin .neq (proj 3 b1) (.str ⟨#[]⟩)) fun d4 =>
    oif d4
     (some (.bool false))
     (P_tree_one_6 R b1 b3))
    (P_tree_one_6 R b1 b3)
    none)
   none)
  (ob (dUn .not (proj 0 b3)) fun d5 =>
  ogd d5
   (ob (dBin .neq (proj 3 b1) (.str ⟨#[]⟩)) fun d6 =>
   oif d6
    (some (.bool false))
    (P_tree_one_6 R b1 b3))
   (P_tree_one_6 R b1 b3)
   none)
  none) := evP_of [4, 6, 8, 10, 12, 14, 16, 18] (by kernel_rfl)
set_option maxRecDepth 100000 in
theorem eq_tree_one_6 (R : Orc) (b1 b3 : DV) : P_tree_one_6 R b1 b3 =
 (ogd (proj 1 b3)
  (ob (R.p F_word_Name [(proj 4 b1)]) fun d1 =>
  ob (dUn .not d1) fun d2 =>
  ogd d2
   (some (.bool false))
   (ob (dUn .not (proj 1 b3)) fun d3 =>
   ogd d3
    (ob (dBin .neq (proj 4 b1) (.str ⟨#[]⟩)) fun d4 =>
    oif d4
     (some (.bool false))
     (P_tree_one_8 R b1 b3))
    (P_tree_one_8 R b1 b3)
    none)
   none)
  (ob (dUn .not (proj 1 b3)) fun d5 =>
  ogd d5
   (ob (dBin .neq (proj 4 b1) (.str ⟨#[]⟩)) fun d6 =>
   oif d6
    (some (.bool false))
    (P_tree_one_8 R b1 b3))
   (P_tree_one_8 R b1 b3)
   none)
  none) := evP_of [4, 6, 8, 10, 12, 14, 16, 18] (by kernel_rfl)
set_option maxRecDepth 100000 in
theorem eq_tree_one_8 (R : Orc) (b1 b3 : DV) : P_tree_one_8 R b1 b3 =
 (ob (dUn .not (proj 2 b3)) fun d1 =>
 ogd d1
  (ob (dBin .neq (proj 5 b1) (.int .i64 0)) fun d2 =>
  ogd d2
   (some (.bool false))
   (ob (dBin .eql (proj 0 b1) (.int .i64 3)) fun d3 =>
   ogd d3
    (ob (dBin .neq (proj 5 b1) (.int .i64 0)) fun d4 =>
    ogd d4
     (ob (dBin .neq (proj 5 b1) (.int .i64 1)) fun d5 =>
     oif d5
      (some (.bool false))
      (P_tree_one_10 R b1 b3))
     (P_tree_one_10 R b1 b3)
     none)
    (P_tree_one_10 R b1 b3)
    none)
   none)
  (ob (dBin .eql (proj 0 b1) (.int .i64 3)) fun d6 =>
  ogd d6
   (ob (dBin .neq (proj 5 b1) (.int .i64 0)) fun d7 =>
   ogd d7
    (ob (dBin .neq (proj 5 b1) (.int .i64 1)) fun d8 =>
    oif d8
     (some (.bool false))
     (P_tree_one_10 R b1 b3))
    (P_tree_one_10 R b1 b3)
    none)
   (P_tree_one_10 R b1 b3)
   none)
  none) := evP_of [4, 6, 8, 10, 12, 14, 16, 18] (by kernel_rfl)
theorem eq_tree_one_10 (R : Orc) (b1 b3 : DV) : P_tree_one_10 R b1 b3 =
 (ob (dUn .not (proj 3 b3)) fun d1 =>
 ogd d1
  (ob (dBin .neq (proj 6 b1) (.str ⟨#[]⟩)) fun d2 =>
  ogd d2
   (some (.bool false))
   (ob (dLenS (proj 6 b1)) fun d3 =>
   ob (dBin .gtr d3 (.int .i64 200)) fun d4 =>
   oif d4
    (some (.bool false))
    (P_tree_one_12 R b1 b3))
   none)
  (ob (dLenS (proj 6 b1)) fun d5 =>
  ob (dBin .gtr d5 (.int .i64 200)) fun d6 =>
  oif d6
   (some (.bool false))
   (P_tree_one_12 R b1 b3))
  none) := evP_of [4, 6, 8, 10, 12, 14, 16, 18] (by kernel_rfl)
set_option maxRecDepth 100000 in
theorem eq_tree_one_12 (R : Orc) (b1 b3 : DV) : P_tree_one_12 R b1 b3 =
 (ogd (proj 4 b3)
  (ob (dBin .lss (proj 7 b1) (.int .i64 1)) fun d1 =>
  ogd d1
   (some (.bool false))
   (ob (dBin .gtr (proj 7 b1) (.int .i64 7)) fun d2 =>
   ogd d2
    (some (.bool false))
    (ob (dUn .not (proj 4 b3)) fun d3 =>
    ogd d3
     (ob (dBin .neq (proj 7 b1) (.int .i64 0)) fun d4 =>
     oif d4
      (some (.bool false))
      (P_tree_one_14 R b1 b3))
     (P_tree_one_14 R b1 b3)
     none)
    none)
   none)
  (ob (dUn .not (proj 4 b3)) fun d5 =>
  ogd d5
   (ob (dBin .neq (proj 7 b1) (.int .i64 0)) fun d6 =>
   oif d6
    (some (.bool false))
    (P_tree_one_14 R b1 b3))
   (P_tree_one_14 R b1 b3)
   none)
  none) := evP_of [4, 6, 8, 10, 12, 14, 16, 18] (by kernel_rfl)
set_option maxRecDepth 100000 in
theorem eq_tree_one_14 (R : Orc) (b1 b3 : DV) : P_tree_one_14 R b1 b3 =
 (ob (R.p F_tree_none [(.agg [(proj 8 b1), (proj 9 b1), (proj 10 b1)])]) fun d1 =>
 ob (dUn .not d1) fun d2 =>
 ogd d2
  (ob (dUn .not (proj 5 b3)) fun d3 =>
  ogd d3
   (some (.bool false))
   (ob (R.p F_tree_closed [(.agg [(proj 8 b1), (proj 9 b1), (proj 10 b1)])]) fun d4 =>
   ob (dUn .not d4) fun d5 =>
   ogd d5
    (some (.bool false))
    (ogd (proj 7 b3)
     (ob (R.p F_tree_none [(.agg [(proj 8 b1), (proj 9 b1), (proj 10 b1)])]) fun d6 =>
     oif d6
      (some (.bool false))
      (P_tree_one_16 R b1 b3))
     (P_tree_one_16 R b1 b3)
     none)
    none)
   none)
  (ogd (proj 7 b3)
   (ob (R.p F_tree_none [(.agg [(proj 8 b1), (proj 9 b1), (proj 10 b1)])]) fun d7 =>
   oif d7
    (some (.bool false))
    (P_tree_one_16 R b1 b3))
   (P_tree_one_16 R b1 b3)
   none)
  none) := evP_of [4, 6, 8, 10, 12, 14, 16, 18] (by kernel_rfl)
theorem eq_tree_one_16 (R : Orc) (b1 b3 : DV) : P_tree_one_16 R b1 b3 =
 (ob (R.p F_tree_none [(.agg [(proj 11 b1), (proj 12 b1), (proj 13 b1)])]) fun d1 =>
 ob (dUn .not d1) fun d2 =>
 ogd d2
  (ob (dUn .not (proj 6 b3)) fun d3 =>
  ogd d3
   (some (.bool false))
   (ob (R.p F_tree_closed [(.agg [(proj 11 b1), (proj 12 b1), (proj 13 b1)])]) fun d4 =>
   ob (dUn .not d4) fun d5 =>
   oif d5
    (some (.bool false))
    (P_tree_one_18 R b1))
   none)
  (P_tree_one_18 R b1)
  none) := evP_of [4, 6, 8, 10, 12, 14, 16, 18] (by kernel_rfl)
theorem eq_tree_one_18 (R : Orc) (b1 : DV) : P_tree_one_18 R b1 =
 (ob (dLen (proj 14 b1)) fun d1 =>
 P_tree_one_19h R (proj 14 b1) d1 (.int .i64 0)) := evP_of [4, 6, 8, 10, 12, 14, 16, 18] (by kernel_rfl)
theorem eq_tree_one_19h (R : Orc) (t176 t177 t178 : DV) : P_tree_one_19h R t176 t177 t178 =
 (ob (dBin .lss t178 t177) fun d1 =>
 oif d1
  (ob (dIdx 7 t176 t178) fun d2 =>
  ob (R.p F_tree_CheckPat [(ag7 d2)]) fun d3 =>
  ob (dBin .neq d3 (.int .i64 0)) fun d4 =>
  oif d4
   (some (.bool false))
   (ob (dBin .add t178 (.int .i64 1)) fun d5 =>
   P_tree_one_19h R t176 t177 d5))
  (some (.bool true))) := headP_of [4, 6, 8, 10, 12, 14, 16, 18] (by kernel_rfl)
theorem call_tree_one (x0 : DV) {d : DV} (h : P_tree_one (run cfg) x0 = some d) : (run cfg).p F_tree_one [x0] = some d := callE Tryz.func96 (by kernel_rfl) (by kernel_rfl) (by kernel_rfl) h
noncomputable def P_word_Key (R : Orc) (x0 : DV) : Option DV := eP Tryz.f97 fl_word_Key R [] (initSt Tryz.f97 [(x0, .val)] [])
theorem eq_word_Key (R : Orc) (x0 : DV) : P_word_Key R x0 =
 (ob (dBin .eql x0 (.str ⟨#[108, 101, 116]⟩)) fun d1 =>
 oif d1
  (some (.bool true))
  (ob (dBin .eql x0 (.str ⟨#[114, 101, 99]⟩)) fun d2 =>
  oif d2
   (some (.bool true))
   (ob (dBin .eql x0 (.str ⟨#[105, 110]⟩)) fun d3 =>
   oif d3
    (some (.bool true))
    (ob (dBin .eql x0 (.str ⟨#[102, 117, 110]⟩)) fun d4 =>
    oif d4
     (some (.bool true))
     (ob (dBin .eql x0 (.str ⟨#[105, 102]⟩)) fun d5 =>
     oif d5
      (some (.bool true))
      (ob (dBin .eql x0 (.str ⟨#[116, 104, 101, 110]⟩)) fun d6 =>
      oif d6
       (some (.bool true))
       (ob (dBin .eql x0 (.str ⟨#[101, 108, 115, 101]⟩)) fun d7 =>
       oif d7
        (some (.bool true))
        (ob (dBin .eql x0 (.str ⟨#[109, 97, 116, 99, 104]⟩)) fun d8 =>
        oif d8
         (some (.bool true))
         (ob (dBin .eql x0 (.str ⟨#[119, 105, 116, 104]⟩)) fun d9 =>
         oif d9
          (some (.bool true))
          (ob (dBin .eql x0 (.str ⟨#[101, 110, 100]⟩)) fun d10 =>
          oif d10
           (some (.bool true))
           (ob (dBin .eql x0 (.str ⟨#[116, 114, 117, 101]⟩)) fun d11 =>
           oif d11
            (some (.bool true))
            (ob (dBin .eql x0 (.str ⟨#[102, 97, 108, 115, 101]⟩)) fun d12 =>
            oif d12
             (some (.bool true))
             (ob (dBin .eql x0 (.str ⟨#[105, 110, 116]⟩)) fun d13 =>
             oif d13
              (some (.bool true))
              (ob (dBin .eql x0 (.str ⟨#[98, 111, 111, 108]⟩)) fun d14 =>
              oif d14
               (some (.bool true))
               (ob (dBin .eql x0 (.str ⟨#[115, 116, 114, 105, 110, 103]⟩)) fun d15 =>
               oif d15
                (some (.bool true))
                (ob (dBin .eql x0 (.str ⟨#[117, 110, 105, 116]⟩)) fun d16 =>
                oif d16
                 (some (.bool true))
                 (ob (dBin .eql x0 (.str ⟨#[108, 105, 115, 116]⟩)) fun d17 =>
                 oif d17
                  (some (.bool true))
                  (some (.bool false))))))))))))))))))) := evP_of [] (by kernel_rfl)
theorem call_word_Key (x0 : DV) {d : DV} (h : P_word_Key (run cfg) x0 = some d) : (run cfg).p F_word_Key [x0] = some d := callE Tryz.func97 (by kernel_rfl) (by kernel_rfl) (by kernel_rfl) h
noncomputable def P_word_inner (R : Orc) (x0 : DV) : Option DV := eP Tryz.f98 fl_word_inner R [] (initSt Tryz.f98 [(x0, .val)] [])
set_option maxRecDepth 100000 in
theorem eq_word_inner (R : Orc) (x0 : DV) : P_word_inner R x0 =
 (ob (dBin .geq x0 (.int .u8 97)) fun d1 =>
 ogd d1
  (ob (dBin .leq x0 (.int .u8 122)) fun d2 =>
  ogd d2
   (some (.bool true))
   (ob (dBin .geq x0 (.int .u8 65)) fun d3 =>
   ogd d3
    (ob (dBin .leq x0 (.int .u8 90)) fun d4 =>
    ogd d4
     (some (.bool true))
     (ob (dBin .geq x0 (.int .u8 48)) fun d5 =>
     ogd d5
      (ob (dBin .leq x0 (.int .u8 57)) fun d6 =>
      ogd d6
       (some (.bool true))
       (ob (dBin .eql x0 (.int .u8 95)) fun d7 =>
       ogd d7
        (some (.bool true))
        (ob (dBin .eql x0 (.int .u8 39)) fun d8 =>
        some d8)
        none)
       none)
      (ob (dBin .eql x0 (.int .u8 95)) fun d9 =>
      ogd d9
       (some (.bool true))
       (ob (dBin .eql x0 (.int .u8 39)) fun d10 =>
       some d10)
       none)
      none)
     none)
    (ob (dBin .geq x0 (.int .u8 48)) fun d11 =>
    ogd d11
     (ob (dBin .leq x0 (.int .u8 57)) fun d12 =>
     ogd d12
      (some (.bool true))
      (ob (dBin .eql x0 (.int .u8 95)) fun d13 =>
      ogd d13
       (some (.bool true))
       (ob (dBin .eql x0 (.int .u8 39)) fun d14 =>
       some d14)
       none)
      none)
     (ob (dBin .eql x0 (.int .u8 95)) fun d15 =>
     ogd d15
      (some (.bool true))
      (ob (dBin .eql x0 (.int .u8 39)) fun d16 =>
      some d16)
      none)
     none)
    none)
   none)
  (ob (dBin .geq x0 (.int .u8 65)) fun d17 =>
  ogd d17
   (ob (dBin .leq x0 (.int .u8 90)) fun d18 =>
   ogd d18
    (some (.bool true))
    (ob (dBin .geq x0 (.int .u8 48)) fun d19 =>
    ogd d19
     (ob (dBin .leq x0 (.int .u8 57)) fun d20 =>
     ogd d20
      (some (.bool true))
      (ob (dBin .eql x0 (.int .u8 95)) fun d21 =>
      ogd d21
       (some (.bool true))
       (ob (dBin .eql x0 (.int .u8 39)) fun d22 =>
       some d22)
       none)
      none)
     (ob (dBin .eql x0 (.int .u8 95)) fun d23 =>
     ogd d23
      (some (.bool true))
      (ob (dBin .eql x0 (.int .u8 39)) fun d24 =>
      some d24)
      none)
     none)
    none)
   (ob (dBin .geq x0 (.int .u8 48)) fun d25 =>
   ogd d25
    (ob (dBin .leq x0 (.int .u8 57)) fun d26 =>
    ogd d26
     (some (.bool true))
     (ob (dBin .eql x0 (.int .u8 95)) fun d27 =>
     ogd d27
      (some (.bool true))
      (ob (dBin .eql x0 (.int .u8 39)) fun d28 =>
      some d28)
      none)
     none)
    (ob (dBin .eql x0 (.int .u8 95)) fun d29 =>
    ogd d29
     (some (.bool true))
     (ob (dBin .eql x0 (.int .u8 39)) fun d30 =>
     some d30)
     none)
    none)
   none)
  none) := evP_of [] (by kernel_rfl)
theorem call_word_inner (x0 : DV) {d : DV} (h : P_word_inner (run cfg) x0 = some d) : (run cfg).p F_word_inner [x0] = some d := callE Tryz.func98 (by kernel_rfl) (by kernel_rfl) (by kernel_rfl) h
noncomputable def P_erase_binds (R : Orc) (x0 x1 x2 : DV) : Option DV := eP Tryz.f99 fl_erase_binds R [] (initSt Tryz.f99 [(x0, .val), (x1, .val), (x2, .val)] [])
noncomputable def P_erase_binds_4 (R : Orc) (t2 b3 : DV) : Option DV := eP Tryz.f99 fl_erase_binds R [true, false, false, true, false] (mst 60 [(2, t2)] [(3, (.loc 3 0))] [(3, some (bxs b3 0 16))] [])
noncomputable def P_erase_binds_5 (R : Orc) (t1 t2 b3 : DV) : Option DV := eP Tryz.f99 fl_erase_binds R [true, false, false, true, true] (mst 60 [(1, t1), (2, t2)] [(3, (.loc 3 0))] [(3, some (bxs b3 0 16))] [])
theorem eq_erase_binds (R : Orc) (x0 x1 x2 : DV) : P_erase_binds R x0 x1 x2 =
 (og (isAggN 16 x0) <|
 ob (dBin .eql (proj 0 x0) (.int .i64 9)) fun d1 =>
 oif d1
  (P_erase_binds_4 R x2 x0)
  (ob (dBin .eql (proj 0 x0) (.int .i64 11)) fun d2 =>
  ogd d2
   (ob (dBin .eql x1 (.int .i64 1)) fun d3 =>
   oif d3
    (P_erase_binds_4 R x2 x0)
    (ob (dBin .eql (proj 0 x0) (.int .i64 12)) fun d4 =>
    ogd d4
     (ob (dBin .eql x1 (.int .i64 1)) fun d5 =>
     oif d5
      (P_erase_binds_4 R x2 x0)
      (P_erase_binds_5 R x1 x2 x0))
     (P_erase_binds_5 R x1 x2 x0)
     none))
   (ob (dBin .eql (proj 0 x0) (.int .i64 12)) fun d6 =>
   ogd d6
    (ob (dBin .eql x1 (.int .i64 1)) fun d7 =>
    oif d7
     (P_erase_binds_4 R x2 x0)
     (P_erase_binds_5 R x1 x2 x0))
    (P_erase_binds_5 R x1 x2 x0)
    none)
   none)) := evP_of [4, 5] (by kernel_rfl)
theorem eq_erase_binds_4 (R : Orc) (t2 b3 : DV) : P_erase_binds_4 R t2 b3 =
 (ob (dBin .eql (proj 3 b3) t2) fun d1 =>
 some d1) := evP_of [4, 5] (by kernel_rfl)
theorem eq_erase_binds_5 (R : Orc) (t1 t2 b3 : DV) : P_erase_binds_5 R t1 t2 b3 =
 (ob (dBin .eql (proj 0 b3) (.int .i64 12)) fun d1 =>
 oif d1
  (ob (dBin .eql (proj 3 b3) t2) fun d2 =>
  ogd d2
   (some (.bool true))
   (ob (dBin .eql (proj 4 b3) t2) fun d3 =>
   some d3)
   none)
  (ob (dBin .eql (proj 0 b3) (.int .i64 14)) fun d4 =>
  ogd d4
   (ob (dBin .gtr t1 (.int .i64 0)) fun d5 =>
   oif d5
    (ob (dBin .sub t1 (.int .i64 1)) fun d6 =>
    ob (dIdx 7 (proj 14 b3) d6) fun d7 =>
    ob (R.r F_erase_patNames [((ag7 d7), .val), ((.list 1 []), .own)] []) fun q8 =>
    ob (R.p F_slices_Contains__string_string [(q8.1.getD 0 .undef), t2]) fun d9 =>
    some d9)
    (some (.bool false)))
   (some (.bool false))
   none)) := evP_of [4, 5] (by kernel_rfl)
theorem call_erase_binds (x0 x1 x2 : DV) {d : DV} (h : P_erase_binds (run cfg) x0 x1 x2 = some d) : (run cfg).p F_erase_binds [x0, x1, x2] = some d := callE Tryz.func99 (by kernel_rfl) (by kernel_rfl) (by kernel_rfl) h
noncomputable def P_r01_lower (R : Orc) (x0 : DV) : Option DV := eP Tryz.f100 fl_r01_lower R [] (initSt Tryz.f100 [(x0, .val)] [])
theorem eq_r01_lower (R : Orc) (x0 : DV) : P_r01_lower R x0 =
 (ob (dBin .geq x0 (.int .u8 97)) fun d1 =>
 ogd d1
  (ob (dBin .leq x0 (.int .u8 122)) fun d2 =>
  some d2)
  (some (.bool false))
  none) := evP_of [] (by kernel_rfl)
theorem call_r01_lower (x0 : DV) {d : DV} (h : P_r01_lower (run cfg) x0 = some d) : (run cfg).p F_r01_lower [x0] = some d := callE Tryz.func100 (by kernel_rfl) (by kernel_rfl) (by kernel_rfl) h
noncomputable def P_r01_part (R : Orc) (x0 : DV) : Option DV := eP Tryz.f101 fl_r01_part R [] (initSt Tryz.f101 [(x0, .val)] [])
set_option maxRecDepth 100000 in
theorem eq_r01_part (R : Orc) (x0 : DV) : P_r01_part R x0 =
 (ob (R.p F_r01_lower [x0]) fun d1 =>
 ogd d1
  (some (.bool true))
  (ob (R.p F_r01_digit [x0]) fun d2 =>
  ogd d2
   (some (.bool true))
   (ob (dBin .geq x0 (.int .u8 65)) fun d3 =>
   ogd d3
    (ob (dBin .leq x0 (.int .u8 90)) fun d4 =>
    ogd d4
     (some (.bool true))
     (ob (dBin .eql x0 (.int .u8 95)) fun d5 =>
     ogd d5
      (some (.bool true))
      (ob (dBin .eql x0 (.int .u8 39)) fun d6 =>
      some d6)
      none)
     none)
    (ob (dBin .eql x0 (.int .u8 95)) fun d7 =>
    ogd d7
     (some (.bool true))
     (ob (dBin .eql x0 (.int .u8 39)) fun d8 =>
     some d8)
     none)
    none)
   none)
  none) := evP_of [] (by kernel_rfl)
theorem call_r01_part (x0 : DV) {d : DV} (h : P_r01_part (run cfg) x0 = some d) : (run cfg).p F_r01_part [x0] = some d := callE Tryz.func101 (by kernel_rfl) (by kernel_rfl) (by kernel_rfl) h
noncomputable def P_r01_Key (R : Orc) (x0 : DV) : Option DV := eP Tryz.f102 fl_r01_Key R [] (initSt Tryz.f102 [(x0, .val)] [])
noncomputable def P_r01_Key_2h (R : Orc) (t0 t3 : DV) : Option DV := hP Tryz.f102 fl_r01_Key R [true, false, true, false] (mst 40 [(0, t0), (3, t3)] [] [] [])
noncomputable def P_r01_Key_8h (R : Orc) (t0 t4 t5 : DV) : Option DV := hP Tryz.f102 fl_r01_Key R [true, true, true, false, true, false] (mst 40 [(0, t0), (4, t4), (5, t5)] [] [] [])
theorem eq_r01_Key (R : Orc) (x0 : DV) : P_r01_Key R x0 =
 (P_r01_Key_2h R x0 (.int .i64 0)) := evP_of [] (by kernel_rfl)
theorem eq_r01_Key_2h (R : Orc) (t0 t3 : DV) : P_r01_Key_2h R t0 t3 =
 (ob (dLenS t0) fun d1 =>
 ob (dBin .lss t3 d1) fun d2 =>
 oif d2
  (ob (dStrIdx t0 t3) fun d3 =>
  ob (R.p F_r01_lower [d3]) fun d4 =>
  ob (dUn .not d4) fun d5 =>
  oif d5
   (some (.bool false))
   (ob (dBin .add t3 (.int .i64 1)) fun d6 =>
   P_r01_Key_2h R t0 d6))
  (ob (dBin .add (.str ⟨#[32]⟩) t0) fun d7 =>
  ob (dBin .add d7 (.str ⟨#[32]⟩)) fun d8 =>
  P_r01_Key_8h R t0 d8 (.int .i64 0))) := headP_of [] (by kernel_rfl)
theorem eq_r01_Key_8h (R : Orc) (t0 t4 t5 : DV) : P_r01_Key_8h R t0 t4 t5 =
 (ob (dLenS t4) fun d1 =>
 ob (dBin .add t5 d1) fun d2 =>
 ob (dBin .leq d2 (.int .i64 81)) fun d3 =>
 oif d3
  (ob (dLenS t0) fun d4 =>
  ob (dBin .gtr d4 (.int .i64 0)) fun d5 =>
  ogd d5
   (ob (dLenS t4) fun d6 =>
   ob (dBin .add t5 d6) fun d7 =>
   ob (dSliceS (.str ⟨#[32, 108, 101, 116, 32, 114, 101, 99, 32, 105, 110, 32, 102, 117, 110, 32, 105, 102, 32, 116, 104, 101, 110, 32, 101, 108, 115, 101, 32, 109, 97, 116, 99, 104, 32, 119, 105, 116, 104, 32, 101, 110, 100, 32, 116, 114, 117, 101, 32, 102, 97, 108, 115, 101, 32, 105, 110, 116, 32, 98, 111, 111, 108, 32, 115, 116, 114, 105, 110, 103, 32, 117, 110, 105, 116, 32, 108, 105, 115, 116, 32]⟩) (some t5) (some d7)) fun d8 =>
   ob (dBin .eql d8 t4) fun d9 =>
   oif d9
    (some (.bool true))
    (ob (dBin .add t5 (.int .i64 1)) fun d10 =>
    P_r01_Key_8h R t0 t4 d10))
   (ob (dBin .add t5 (.int .i64 1)) fun d11 =>
   P_r01_Key_8h R t0 t4 d11)
   none)
  (some (.bool false))) := headP_of [] (by kernel_rfl)
theorem call_r01_Key (x0 : DV) {d : DV} (h : P_r01_Key (run cfg) x0 = some d) : (run cfg).p F_r01_Key [x0] = some d := callE Tryz.func102 (by kernel_rfl) (by kernel_rfl) (by kernel_rfl) h
noncomputable def P_r05_Has (R : Orc) (x0 x1 : DV) : Option DV := eP Tryz.f103 fl_r05_Has R [] (initSt Tryz.f103 [(x0, .val), (x1, .val)] [])
noncomputable def P_r05_Has_2h (R : Orc) (t0 t1 t5 : DV) : Option DV := hP Tryz.f103 fl_r05_Has R [true, false, true, false] (mst 18 [(0, t0), (1, t1), (5, t5)] [] [] [])
theorem eq_r05_Has (R : Orc) (x0 x1 : DV) : P_r05_Has R x0 x1 =
 (P_r05_Has_2h R x0 x1 (.int .i64 0)) := evP_of [] (by kernel_rfl)
theorem eq_r05_Has_2h (R : Orc) (t0 t1 t5 : DV) : P_r05_Has_2h R t0 t1 t5 =
 (ob (dLen t0) fun d1 =>
 ob (dBin .lss t5 d1) fun d2 =>
 oif d2
  (ob (dIdx 1 t0 t5) fun d3 =>
  og (isLeaf d3) <|
  ob (dBin .eql d3 t1) fun d4 =>
  oif d4
   (some (.bool true))
   (ob (dBin .add t5 (.int .i64 1)) fun d5 =>
   P_r05_Has_2h R t0 t1 d5))
  (some (.bool false))) := headP_of [] (by kernel_rfl)
theorem call_r05_Has (x0 x1 : DV) {d : DV} (h : P_r05_Has (run cfg) x0 x1 = some d) : (run cfg).p F_r05_Has [x0, x1] = some d := callE Tryz.func103 (by kernel_rfl) (by kernel_rfl) (by kernel_rfl) h
noncomputable def P_r05_Binds (R : Orc) (x0 x1 : DV) : Option DV := eP Tryz.f104 fl_r05_Binds R [] (initSt Tryz.f104 [(x0, .val), (x1, .val)] [])
noncomputable def P_r05_Binds_5 (R : Orc) (t1 b2 : DV) : Option DV := eP Tryz.f104 fl_r05_Binds R [true, false, false, true, true] (mst 50 [(1, t1)] [(2, (.loc 2 0))] [(2, some (bxs b2 0 16))] [])
set_option maxRecDepth 100000 in
theorem eq_r05_Binds (R : Orc) (x0 x1 : DV) : P_r05_Binds R x0 x1 =
 (og (isAggN 16 x0) <|
 ob (dBin .eql (proj 0 x0) (.int .i64 9)) fun d1 =>
 oif d1
  (og (isCell (proj 3 x0)) <|
  some (.list 1 [(proj 3 x0)]))
  (ob (dBin .eql (proj 0 x0) (.int .i64 11)) fun d2 =>
  ogd d2
   (ob (dBin .eql x1 (.int .i64 1)) fun d3 =>
   oif d3
    (og (isCell (proj 3 x0)) <|
    some (.list 1 [(proj 3 x0)]))
    (ob (dBin .eql (proj 0 x0) (.int .i64 12)) fun d4 =>
    ogd d4
     (ob (dBin .eql x1 (.int .i64 1)) fun d5 =>
     oif d5
      (og (isCell (proj 3 x0)) <|
      some (.list 1 [(proj 3 x0)]))
      (P_r05_Binds_5 R x1 x0))
     (P_r05_Binds_5 R x1 x0)
     none))
   (ob (dBin .eql (proj 0 x0) (.int .i64 12)) fun d6 =>
   ogd d6
    (ob (dBin .eql x1 (.int .i64 1)) fun d7 =>
    oif d7
     (og (isCell (proj 3 x0)) <|
     some (.list 1 [(proj 3 x0)]))
     (P_r05_Binds_5 R x1 x0))
    (P_r05_Binds_5 R x1 x0)
    none)
   none)) := evP_of [5] (by kernel_rfl)
theorem eq_r05_Binds_5 (R : Orc) (t1 b2 : DV) : P_r05_Binds_5 R t1 b2 =
 (ob (dBin .eql (proj 0 b2) (.int .i64 12)) fun d1 =>
 oif d1
  (og (isCell (proj 3 b2)) <|
  og (isCell (proj 4 b2)) <|
  some (.list 1 [(proj 3 b2), (proj 4 b2)]))
  (ob (dBin .eql (proj 0 b2) (.int .i64 14)) fun d2 =>
  ogd d2
   (ob (dBin .gtr t1 (.int .i64 0)) fun d3 =>
   oif d3
    (ob (dBin .sub t1 (.int .i64 1)) fun d4 =>
    ob (dIdx 7 (proj 14 b2) d4) fun d5 =>
    ob (R.p F_r05_Names [(ag7 d5)]) fun d6 =>
    some d6)
    (some (.list 1 [])))
   (some (.list 1 []))
   none)) := evP_of [5] (by kernel_rfl)
theorem call_r05_Binds (x0 x1 : DV) {d : DV} (h : P_r05_Binds (run cfg) x0 x1 = some d) : (run cfg).p F_r05_Binds [x0, x1] = some d := callE Tryz.func104 (by kernel_rfl) (by kernel_rfl) (by kernel_rfl) h
noncomputable def P_r03_Same (R : Orc) (x0 x1 : DV) : Option DV := eP Tryz.f105 fl_r03_Same R [] (initSt Tryz.f105 [(x0, .val), (x1, .val)] [])
noncomputable def P_r03_Same_4h (R : Orc) (t5 b2 b3 : DV) : Option DV := hP Tryz.f105 fl_r03_Same R [true, true, false, true, false] (mst 46 [(5, t5)] [(2, (.loc 2 0)), (3, (.loc 3 0))] [(2, some (bxs b2 0 3)), (3, some (bxs b3 0 3))] [])
set_option maxRecDepth 100000 in
theorem eq_r03_Same (R : Orc) (x0 x1 : DV) : P_r03_Same R x0 x1 =
 (og (isAggN 3 x0) <|
 og (isAggN 3 x1) <|
 ob (dBin .neq (proj 0 x0) (proj 0 x1)) fun d1 =>
 ogd d1
  (some (.bool false))
  (ob (dBin .neq (proj 1 x0) (proj 1 x1)) fun d2 =>
  ogd d2
   (some (.bool false))
   (ob (dLen (proj 2 x0)) fun d3 =>
   ob (dLen (proj 2 x1)) fun d4 =>
   ob (dBin .neq d3 d4) fun d5 =>
   oif d5
    (some (.bool false))
    (P_r03_Same_4h R (.int .i64 0) x0 x1))
   none)
  none) := evP_of [] (by kernel_rfl)
theorem eq_r03_Same_4h (R : Orc) (t5 b2 b3 : DV) : P_r03_Same_4h R t5 b2 b3 =
 (ob (dLen (proj 2 b2)) fun d1 =>
 ob (dBin .lss t5 d1) fun d2 =>
 oif d2
  (ob (dIdx 3 (proj 2 b2) t5) fun d3 =>
  ob (dIdx 3 (proj 2 b3) t5) fun d4 =>
  ob (R.p F_r03_Same [(ag3 d3), (ag3 d4)]) fun d5 =>
  ob (dUn .not d5) fun d6 =>
  oif d6
   (some (.bool false))
   (ob (dBin .add t5 (.int .i64 1)) fun d7 =>
   P_r03_Same_4h R d7 b2 b3))
  (some (.bool true))) := headP_of [] (by kernel_rfl)
theorem call_r03_Same (x0 x1 : DV) {d : DV} (h : P_r03_Same (run cfg) x0 x1 = some d) : (run cfg).p F_r03_Same [x0, x1] = some d := callE Tryz.func105 (by kernel_rfl) (by kernel_rfl) (by kernel_rfl) h
noncomputable def P_r20_Same (R : Orc) (x0 x1 : DV) : Option DV := eP Tryz.f107 fl_r20_Same R [] (initSt Tryz.f107 [(x0, .val), (x1, .val)] [])
noncomputable def P_r20_Same_4h (R : Orc) (t5 b2 b3 : DV) : Option DV := hP Tryz.f107 fl_r20_Same R [true, true, false, true, false] (mst 60 [(5, t5)] [(2, (.loc 2 0)), (3, (.loc 3 0))] [(2, some (bxs b2 0 5)), (3, some (bxs b3 0 5))] [])
set_option maxRecDepth 100000 in
theorem eq_r20_Same (R : Orc) (x0 x1 : DV) : P_r20_Same R x0 x1 =
 (og (isAggN 5 x0) <|
 og (isAggN 5 x1) <|
 ob (dBin .neq (proj 0 x0) (proj 0 x1)) fun d1 =>
 ogd d1
  (some (.bool false))
  (ob (dBin .neq (proj 1 x0) (proj 1 x1)) fun d2 =>
  ogd d2
   (some (.bool false))
   (ob (dBin .neq (proj 2 x0) (proj 2 x1)) fun d3 =>
   ogd d3
    (some (.bool false))
    (ob (dEqB (proj 3 x0) (proj 3 x1)) fun b4 =>
    ogd (.bool !b4)
     (some (.bool false))
     (ob (dLen (proj 4 x0)) fun d5 =>
     ob (dLen (proj 4 x1)) fun d6 =>
     ob (dBin .neq d5 d6) fun d7 =>
     oif d7
      (some (.bool false))
      (P_r20_Same_4h R (.int .i64 0) x0 x1))
     none)
    none)
   none)
  none) := evP_of [] (by kernel_rfl)
theorem eq_r20_Same_4h (R : Orc) (t5 b2 b3 : DV) : P_r20_Same_4h R t5 b2 b3 =
 (ob (dLen (proj 4 b2)) fun d1 =>
 ob (dBin .lss t5 d1) fun d2 =>
 oif d2
  (ob (dIdx 5 (proj 4 b2) t5) fun d3 =>
  ob (dIdx 5 (proj 4 b3) t5) fun d4 =>
  ob (R.p F_r20_Same [(ag5 d3), (ag5 d4)]) fun d5 =>
  ob (dUn .not d5) fun d6 =>
  oif d6
   (some (.bool false))
   (ob (dBin .add t5 (.int .i64 1)) fun d7 =>
   P_r20_Same_4h R d7 b2 b3))
  (some (.bool true))) := headP_of [] (by kernel_rfl)
theorem call_r20_Same (x0 x1 : DV) {d : DV} (h : P_r20_Same (run cfg) x0 x1 = some d) : (run cfg).p F_r20_Same [x0, x1] = some d := callE Tryz.func107 (by kernel_rfl) (by kernel_rfl) (by kernel_rfl) h
noncomputable def P_r05_fields (R : Orc) (x0 : DV) : Option DV := eP Tryz.f108 fl_r05_fields R [] (initSt Tryz.f108 [(x0, .val)] [])
noncomputable def P_r05_fields_20 (R : Orc) (b1 b4_0 : DV) : Option DV := eP Tryz.f108 fl_r05_fields R [true, true, true, false, true, false, true, true, true, true, true, true, true, true, true, true, true, false] (mst 85 [] [(1, (.loc 1 0)), (2, (.loc 2 0)), (4, (.loc 4 0))] [(1, some (bxs b1 0 16)), (2, some zb1), (4, some [(b4_0, .val), ((.int .i64 0), .val), ((.int .i64 0), .val), ((.str ⟨#[]⟩), .val), ((.str ⟨#[]⟩), .val), ((.int .i64 0), .val), ((.str ⟨#[]⟩), .val), ((.int .i64 0), .val), ((.int .i64 0), .val), ((.int .i64 0), .val), ((.list 3 []), .val), ((.int .i64 0), .val), ((.int .i64 0), .val), ((.list 3 []), .val), ((.list 7 []), .val), ((.list 16 []), .val)])] [])
set_option maxRecDepth 100000 in
theorem eq_r05_fields (R : Orc) (x0 : DV) : P_r05_fields R x0 =
 (og (isAggN 16 x0) <|
 og (isCell (proj 0 x0)) <|
 ob (dBin .eql (proj 0 x0) (.int .i64 1)) fun d1 =>
 oif d1
  (og (isCell (proj 3 x0)) <|
  some (.tup [(.agg [(proj 0 x0), (.int .i64 0), (.int .i64 0), (proj 3 x0), (.str ⟨#[]⟩), (.int .i64 0), (.str ⟨#[]⟩), (.int .i64 0), (.int .i64 0), (.int .i64 0), (.list 3 []), (.int .i64 0), (.int .i64 0), (.list 3 []), (.list 7 []), (.list 16 [])]), (.int .i64 0)]))
  (ob (dBin .eql (proj 0 x0) (.int .i64 2)) fun d2 =>
  oif d2
   (og (isCell (proj 5 x0)) <|
   some (.tup [(.agg [(proj 0 x0), (.int .i64 0), (.int .i64 0), (.str ⟨#[]⟩), (.str ⟨#[]⟩), (proj 5 x0), (.str ⟨#[]⟩), (.int .i64 0), (.int .i64 0), (.int .i64 0), (.list 3 []), (.int .i64 0), (.int .i64 0), (.list 3 []), (.list 7 []), (.list 16 [])]), (.int .i64 0)]))
   (ob (dBin .eql (proj 0 x0) (.int .i64 3)) fun d3 =>
   oif d3
    (og (isCell (proj 5 x0)) <|
    some (.tup [(.agg [(proj 0 x0), (.int .i64 0), (.int .i64 0), (.str ⟨#[]⟩), (.str ⟨#[]⟩), (proj 5 x0), (.str ⟨#[]⟩), (.int .i64 0), (.int .i64 0), (.int .i64 0), (.list 3 []), (.int .i64 0), (.int .i64 0), (.list 3 []), (.list 7 []), (.list 16 [])]), (.int .i64 0)]))
    (ob (dBin .eql (proj 0 x0) (.int .i64 4)) fun d4 =>
    oif d4
     (og (isCell (proj 6 x0)) <|
     some (.tup [(.agg [(proj 0 x0), (.int .i64 0), (.int .i64 0), (.str ⟨#[]⟩), (.str ⟨#[]⟩), (.int .i64 0), (proj 6 x0), (.int .i64 0), (.int .i64 0), (.int .i64 0), (.list 3 []), (.int .i64 0), (.int .i64 0), (.list 3 []), (.list 7 []), (.list 16 [])]), (.int .i64 0)]))
     (ob (dBin .eql (proj 0 x0) (.int .i64 5)) fun d5 =>
     oif d5
      (some (.tup [(.agg [(proj 0 x0), (.int .i64 0), (.int .i64 0), (.str ⟨#[]⟩), (.str ⟨#[]⟩), (.int .i64 0), (.str ⟨#[]⟩), (.int .i64 0), (.int .i64 0), (.int .i64 0), (.list 3 []), (.int .i64 0), (.int .i64 0), (.list 3 []), (.list 7 []), (.list 16 [])]), (.int .i64 0)]))
      (ob (dBin .eql (proj 0 x0) (.int .i64 7)) fun d6 =>
      oif d6
       (some (.tup [(.agg [(proj 0 x0), (.int .i64 0), (.int .i64 0), (.str ⟨#[]⟩), (.str ⟨#[]⟩), (.int .i64 0), (.str ⟨#[]⟩), (.int .i64 0), (.int .i64 0), (.int .i64 0), (.list 3 []), (.int .i64 0), (.int .i64 0), (.list 3 []), (.list 7 []), (.list 16 [])]), (.int .i64 0)]))
       (ob (dBin .eql (proj 0 x0) (.int .i64 6)) fun d7 =>
       oif d7
        (some (.tup [(.agg [(proj 0 x0), (.int .i64 0), (.int .i64 0), (.str ⟨#[]⟩), (.str ⟨#[]⟩), (.int .i64 0), (.str ⟨#[]⟩), (.int .i64 0), (.int .i64 0), (.int .i64 0), (.list 3 []), (.int .i64 0), (.int .i64 0), (.list 3 []), (.list 7 []), (.list 16 [])]), (.int .i64 2)]))
        (ob (dBin .eql (proj 0 x0) (.int .i64 8)) fun d8 =>
        oif d8
         (some (.tup [(.agg [(proj 0 x0), (.int .i64 0), (.int .i64 0), (.str ⟨#[]⟩), (.str ⟨#[]⟩), (.int .i64 0), (.str ⟨#[]⟩), (.int .i64 0), (.int .i64 0), (.int .i64 0), (.list 3 []), (.int .i64 0), (.int .i64 0), (.list 3 []), (.list 7 []), (.list 16 [])]), (.int .i64 2)]))
         (ob (dBin .eql (proj 0 x0) (.int .i64 10)) fun d9 =>
         oif d9
          (some (.tup [(.agg [(proj 0 x0), (.int .i64 0), (.int .i64 0), (.str ⟨#[]⟩), (.str ⟨#[]⟩), (.int .i64 0), (.str ⟨#[]⟩), (.int .i64 0), (.int .i64 0), (.int .i64 0), (.list 3 []), (.int .i64 0), (.int .i64 0), (.list 3 []), (.list 7 []), (.list 16 [])]), (.int .i64 2)]))
          (ob (dBin .eql (proj 0 x0) (.int .i64 9)) fun d10 =>
          oif d10
           (P_r05_fields_20 R x0 (proj 0 x0))
           (ob (dBin .eql (proj 0 x0) (.int .i64 11)) fun d11 =>
           oif d11
            (P_r05_fields_20 R x0 (proj 0 x0))
            (ob (dBin .eql (proj 0 x0) (.int .i64 12)) fun d12 =>
            oif d12
             (og (isCell (proj 3 x0)) <|
             og (isCell (proj 4 x0)) <|
             some (.tup [(.agg [(proj 0 x0), (.int .i64 0), (.int .i64 0), (proj 3 x0), (proj 4 x0), (.int .i64 0), (.str ⟨#[]⟩), (.int .i64 0), (proj 8 x0), (proj 9 x0), (proj 10 x0), (proj 11 x0), (proj 12 x0), (proj 13 x0), (.list 7 []), (.list 16 [])]), (.int .i64 2)]))
             (ob (dBin .eql (proj 0 x0) (.int .i64 13)) fun d13 =>
             oif d13
              (some (.tup [(.agg [(proj 0 x0), (.int .i64 0), (.int .i64 0), (.str ⟨#[]⟩), (.str ⟨#[]⟩), (.int .i64 0), (.str ⟨#[]⟩), (.int .i64 0), (.int .i64 0), (.int .i64 0), (.list 3 []), (.int .i64 0), (.int .i64 0), (.list 3 []), (.list 7 []), (.list 16 [])]), (.int .i64 3)]))
              (ob (dBin .eql (proj 0 x0) (.int .i64 14)) fun d14 =>
              oif d14
               (ob (dLen (proj 14 x0)) fun d15 =>
               ob (dBin .add (.int .i64 1) d15) fun d16 =>
               og (isCell (proj 14 x0)) <|
               some (.tup [(.agg [(proj 0 x0), (.int .i64 0), (.int .i64 0), (.str ⟨#[]⟩), (.str ⟨#[]⟩), (.int .i64 0), (.str ⟨#[]⟩), (.int .i64 0), (.int .i64 0), (.int .i64 0), (.list 3 []), (.int .i64 0), (.int .i64 0), (.list 3 []), (proj 14 x0), (.list 16 [])]), d16]))
               (ob (dBin .eql (proj 0 x0) (.int .i64 15)) fun d17 =>
               oif d17
                (some (.tup [(.agg [(proj 0 x0), (.int .i64 0), (.int .i64 0), (.str ⟨#[]⟩), (.str ⟨#[]⟩), (.int .i64 0), (.str ⟨#[]⟩), (.int .i64 0), (proj 8 x0), (proj 9 x0), (proj 10 x0), (.int .i64 0), (.int .i64 0), (.list 3 []), (.list 7 []), (.list 16 [])]), (.int .i64 1)]))
                (ob (dBin .eql (proj 0 x0) (.int .i64 16)) fun d18 =>
                oif d18
                 (og (isCell (proj 7 x0)) <|
                 some (.tup [(.agg [(proj 0 x0), (.int .i64 0), (.int .i64 0), (.str ⟨#[]⟩), (.str ⟨#[]⟩), (.int .i64 0), (.str ⟨#[]⟩), (proj 7 x0), (.int .i64 0), (.int .i64 0), (.list 3 []), (.int .i64 0), (.int .i64 0), (.list 3 []), (.list 7 []), (.list 16 [])]), (.int .i64 2)]))
                 (some (.tup [(.agg [(proj 0 x0), (.int .i64 0), (.int .i64 0), (.str ⟨#[]⟩), (.str ⟨#[]⟩), (.int .i64 0), (.str ⟨#[]⟩), (.int .i64 0), (.int .i64 0), (.int .i64 0), (.list 3 []), (.int .i64 0), (.int .i64 0), (.list 3 []), (.list 7 []), (.list 16 [])]), (.int .i64 (-1))])))))))))))))))))) := evP_of [20] (by kernel_rfl)
theorem eq_r05_fields_20 (R : Orc) (b1 b4_0 : DV) : P_r05_fields_20 R b1 b4_0 =
 (og (isCell (proj 3 b1)) <|
 ob (dBin .sub (proj 0 b1) (.int .i64 9)) fun d1 =>
 ob (dBin .quo d1 (.int .i64 2)) fun d2 =>
 ob (dBin .add (.int .i64 1) d2) fun d3 =>
 some (.tup [(.agg [b4_0, (.int .i64 0), (.int .i64 0), (proj 3 b1), (.str ⟨#[]⟩), (.int .i64 0), (.str ⟨#[]⟩), (.int .i64 0), (proj 8 b1), (proj 9 b1), (proj 10 b1), (.int .i64 0), (.int .i64 0), (.list 3 []), (.list 7 []), (.list 16 [])]), d3])) := evP_of [20] (by kernel_rfl)
theorem call_r05_fields (x0 : DV) {d : DV} (h : P_r05_fields (run cfg) x0 = some d) : (run cfg).p F_r05_fields [x0] = some d := callE Tryz.func108 (by kernel_rfl) (by kernel_rfl) (by kernel_rfl) h
noncomputable def P_r05_pat (R : Orc) (x0 : DV) : Option DV := eP Tryz.f109 fl_r05_pat R [] (initSt Tryz.f109 [(x0, .val)] [])
noncomputable def P_r05_pat_25 (R : Orc) (t3 b1 b4_0 b4_3 b4_4 b4_5 : DV) : Option DV := eP Tryz.f109 fl_r05_pat R [true, true, true, true] (mst 92 [(3, t3)] [(1, (.loc 1 0)), (4, (.loc 4 0))] [(1, some (bxs b1 0 7)), (4, some [(b4_0, .val), ((.int .i64 0), .val), ((.int .i64 0), .val), (b4_3, .val), (b4_4, .val), (b4_5, .val), ((.list 7 []), .val)])] [])
noncomputable def P_r05_pat_28h (R : Orc) (t3 t5 b1 : DV) : Option DV := hP Tryz.f109 fl_r05_pat R [true, true, true, true, true, false, true, false] (mst 92 [(3, t3), (5, t5)] [(1, (.loc 1 0))] [(1, some (bxs b1 0 7))] [])
set_option maxRecDepth 100000 in
theorem eq_r05_pat (R : Orc) (x0 : DV) : P_r05_pat R x0 =
 (og (isAggN 7 x0) <|
 og (isCell (proj 0 x0)) <|
 ob (dBin .eql (proj 0 x0) (.int .i64 1)) fun d1 =>
 oif d1
  (P_r05_pat_25 R (.int .i64 0) x0 (proj 0 x0) (.str ⟨#[]⟩) (.int .i64 0) (.str ⟨#[]⟩))
  (ob (dBin .eql (proj 0 x0) (.int .i64 6)) fun d2 =>
  oif d2
   (P_r05_pat_25 R (.int .i64 0) x0 (proj 0 x0) (.str ⟨#[]⟩) (.int .i64 0) (.str ⟨#[]⟩))
   (ob (dBin .eql (proj 0 x0) (.int .i64 8)) fun d3 =>
   oif d3
    (P_r05_pat_25 R (.int .i64 0) x0 (proj 0 x0) (.str ⟨#[]⟩) (.int .i64 0) (.str ⟨#[]⟩))
    (ob (dBin .eql (proj 0 x0) (.int .i64 2)) fun d4 =>
    oif d4
     (og (isCell (proj 3 x0)) <|
     ob (R.p F_r01_Name [(proj 3 x0)]) fun d5 =>
     ob (dUn .not d5) fun d6 =>
     oif d6
      (some (.bool false))
      (P_r05_pat_25 R (.int .i64 0) x0 (proj 0 x0) (proj 3 x0) (.int .i64 0) (.str ⟨#[]⟩)))
     (ob (dBin .eql (proj 0 x0) (.int .i64 3)) fun d7 =>
     oif d7
      (og (isCell (proj 4 x0)) <|
      P_r05_pat_25 R (.int .i64 0) x0 (proj 0 x0) (.str ⟨#[]⟩) (proj 4 x0) (.str ⟨#[]⟩))
      (ob (dBin .eql (proj 0 x0) (.int .i64 4)) fun d8 =>
      oif d8
       (og (isCell (proj 4 x0)) <|
       ob (dBin .lss (proj 4 x0) (.int .i64 0)) fun d9 =>
       ogd d9
        (some (.bool false))
        (ob (dBin .gtr (proj 4 x0) (.int .i64 1)) fun d10 =>
        oif d10
         (some (.bool false))
         (P_r05_pat_25 R (.int .i64 0) x0 (proj 0 x0) (.str ⟨#[]⟩) (proj 4 x0) (.str ⟨#[]⟩)))
        none)
       (ob (dBin .eql (proj 0 x0) (.int .i64 5)) fun d11 =>
       oif d11
        (og (isCell (proj 5 x0)) <|
        ob (dLenS (proj 5 x0)) fun d12 =>
        ob (dBin .gtr d12 (.int .i64 200)) fun d13 =>
        oif d13
         (some (.bool false))
         (P_r05_pat_25 R (.int .i64 0) x0 (proj 0 x0) (.str ⟨#[]⟩) (.int .i64 0) (proj 5 x0)))
        (ob (dBin .eql (proj 0 x0) (.int .i64 7)) fun d14 =>
        oif d14
         (P_r05_pat_25 R (.int .i64 2) x0 (proj 0 x0) (.str ⟨#[]⟩) (.int .i64 0) (.str ⟨#[]⟩))
         (ob (dBin .eql (proj 0 x0) (.int .i64 9)) fun d15 =>
         oif d15
          (P_r05_pat_25 R (.int .i64 2) x0 (proj 0 x0) (.str ⟨#[]⟩) (.int .i64 0) (.str ⟨#[]⟩))
          (some (.bool false))))))))))) := evP_of [25] (by kernel_rfl)
set_option maxRecDepth 100000 in
theorem eq_r05_pat_25 (R : Orc) (t3 b1 b4_0 b4_3 b4_4 b4_5 : DV) : P_r05_pat_25 R t3 b1 b4_0 b4_3 b4_4 b4_5 =
 (ob (dLen (proj 6 b1)) fun d1 =>
 ob (dBin .neq d1 t3) fun d2 =>
 ogd d2
  (some (.bool false))
  (ob (dBin .neq (proj 3 b1) b4_3) fun d3 =>
  ogd d3
   (some (.bool false))
   (ob (dBin .neq (proj 4 b1) b4_4) fun d4 =>
   ogd d4
    (some (.bool false))
    (ob (dBin .neq (proj 5 b1) b4_5) fun d5 =>
    oif d5
     (some (.bool false))
     (P_r05_pat_28h R t3 (.int .i64 0) b1))
    none)
   none)
  none) := evP_of [25] (by kernel_rfl)
theorem eq_r05_pat_28h (R : Orc) (t3 t5 b1 : DV) : P_r05_pat_28h R t3 t5 b1 =
 (ob (dBin .lss t5 t3) fun d1 =>
 oif d1
  (ob (dIdx 7 (proj 6 b1) t5) fun d2 =>
  ob (R.p F_r05_pat [(ag7 d2)]) fun d3 =>
  ob (dUn .not d3) fun d4 =>
  oif d4
   (some (.bool false))
   (ob (dBin .add t5 (.int .i64 1)) fun d5 =>
   P_r05_pat_28h R t3 d5 b1))
  (some (.bool true))) := headP_of [25] (by kernel_rfl)
theorem call_r05_pat (x0 : DV) {d : DV} (h : P_r05_pat (run cfg) x0 = some d) : (run cfg).p F_r05_pat [x0] = some d := callE Tryz.func109 (by kernel_rfl) (by kernel_rfl) (by kernel_rfl) h
noncomputable def P_r05_Names (R : Orc) (x0 : DV) : Option DV := eP Tryz.f110 fl_r05_Names R [] (initSt Tryz.f110 [(x0, .val)] [])
theorem eq_r05_Names (R : Orc) (x0 : DV) : P_r05_Names R x0 =
 (og (isAggN 7 x0) <|
 ob (R.r F_r05_names [((ag7 x0), .val), ((.list 1 []), .own)] []) fun q1 =>
 some (q1.1.getD 0 .undef)) := evP_of [] (by kernel_rfl)
theorem call_r05_Names (x0 : DV) {d : DV} (h : P_r05_Names (run cfg) x0 = some d) : (run cfg).p F_r05_Names [x0] = some d := callE Tryz.func110 (by kernel_rfl) (by kernel_rfl) (by kernel_rfl) h
end Go.Su

/-
 Equations of the program's functions: by program.
-/
namespace Go.Su
open Go.Proofs
set_option linter.unusedVariables false
noncomputable def P_r05_Rise (R : Orc) (x0 x1 : DV) : Option DV := eP Tryz.f113 fl_r05_Rise R [] (initSt Tryz.f113 [(x0, .val), (x1, .val)] [])
noncomputable def P_r05_Rise_2h (R : Orc) (t0 t1 t5 : DV) : Option DV := hP Tryz.f113 fl_r05_Rise R [true, true, false, false] (mst 47 [(0, t0), (1, t1), (5, t5)] [] [] [])
noncomputable def P_r05_Rise_4 (R : Orc) (t0 t1 t5 : DV) : Option DV := eP Tryz.f113 fl_r05_Rise R [true, true, true] (mst 47 [(0, t0), (1, t1), (5, t5)] [] [] [])
noncomputable def P_r05_Rise_6 (R : Orc) (t0 t1 t5 : DV) : Option DV := eP Tryz.f113 fl_r05_Rise R [true, true, true, true] (mst 47 [(0, t0), (1, t1), (5, t5)] [] [] [])
theorem eq_r05_Rise (R : Orc) (x0 x1 : DV) : P_r05_Rise R x0 x1 =
 (P_r05_Rise_2h R x0 x1 (.int .i64 0)) := evP_of [4, 6] (by kernel_rfl)
theorem eq_r05_Rise_2h (R : Orc) (t0 t1 t5 : DV) : P_r05_Rise_2h R t0 t1 t5 =
 (ob (dLen t0) fun d1 =>
 ob (dBin .lss t5 d1) fun d2 =>
 ogd d2
  (ob (dIdx 1 t0 t5) fun d3 =>
  og (isLeaf d3) <|
  ob (dBin .lss d3 t1) fun d4 =>
  oif d4
   (ob (dBin .add t5 (.int .i64 1)) fun d5 =>
   P_r05_Rise_2h R t0 t1 d5)
   (P_r05_Rise_4 R t0 t1 t5))
  (P_r05_Rise_4 R t0 t1 t5)
  none) := headP_of [4, 6] (by kernel_rfl)
theorem eq_r05_Rise_4 (R : Orc) (t0 t1 t5 : DV) : P_r05_Rise_4 R t0 t1 t5 =
 (ob (dLen t0) fun d1 =>
 ob (dBin .lss t5 d1) fun d2 =>
 ogd d2
  (ob (dIdx 1 t0 t5) fun d3 =>
  og (isLeaf d3) <|
  ob (dBin .eql d3 t1) fun d4 =>
  oif d4
   (some t0)
   (P_r05_Rise_6 R t0 t1 t5))
  (P_r05_Rise_6 R t0 t1 t5)
  none) := evP_of [4, 6] (by kernel_rfl)
theorem eq_r05_Rise_6 (R : Orc) (t0 t1 t5 : DV) : P_r05_Rise_6 R t0 t1 t5 =
 (ob (dSlice 1 t0 none (some t5)) fun d1 =>
 ob (dApp 1 (.list 1 []) d1) fun d2 =>
 og (isCell t1) <|
 ob (dApp 1 d2 (.list 1 [t1])) fun d3 =>
 ob (dSlice 1 t0 (some t5) none) fun d4 =>
 ob (dApp 1 d3 d4) fun d5 =>
 some d5) := evP_of [4, 6] (by kernel_rfl)
theorem call_r05_Rise (x0 x1 : DV) {d : DV} (h : P_r05_Rise (run cfg) x0 x1 = some d) : (run cfg).p F_r05_Rise [x0, x1] = some d := callE Tryz.func113 (by kernel_rfl) (by kernel_rfl) (by kernel_rfl) h
noncomputable def P_r23_Op (R : Orc) (x0 x1 x2 : DV) : Option DV := eP Tryz.f136 fl_r23_Op R [] (initSt Tryz.f136 [(x0, .val), (x1, .val), (x2, .val)] [])
theorem eq_r23_Op (R : Orc) (x0 x1 x2 : DV) : P_r23_Op R x0 x1 x2 =
 (ob (dBin .eql x0 (.int .i64 1)) fun d1 =>
 oif d1
  (ob (dBin .add x1 x2) fun d2 =>
  some (.tup [d2, (.bool true)]))
  (ob (dBin .eql x0 (.int .i64 2)) fun d3 =>
  oif d3
   (ob (dBin .sub x1 x2) fun d4 =>
   some (.tup [d4, (.bool true)]))
   (ob (dBin .eql x0 (.int .i64 3)) fun d5 =>
   oif d5
    (ob (dBin .mul x1 x2) fun d6 =>
    some (.tup [d6, (.bool true)]))
    (ob (dBin .eql x0 (.int .i64 4)) fun d7 =>
    oif d7
     (ob (dBin .eql x2 (.int .i64 0)) fun d8 =>
     oif d8
      (some (.tup [(.int .i64 0), (.bool false)]))
      (ob (dBin .eql x2 (.int .i64 (-1))) fun d9 =>
      oif d9
       (ob (dBin .sub (.int .i64 0) x1) fun d10 =>
       some (.tup [d10, (.bool true)]))
       (ob (dBin .quo x1 x2) fun d11 =>
       some (.tup [d11, (.bool true)]))))
     (ob (dBin .eql x0 (.int .i64 5)) fun d12 =>
     oif d12
      (ob (dBin .lss x1 x2) fun d13 =>
      ob (R.p F_r23_truth [d13]) fun d14 =>
      some (.tup [d14, (.bool true)]))
      (ob (dBin .eql x1 x2) fun d15 =>
      ob (R.p F_r23_truth [d15]) fun d16 =>
      some (.tup [d16, (.bool true)]))))))) := evP_of [] (by kernel_rfl)
theorem call_r23_Op (x0 x1 x2 : DV) {d : DV} (h : P_r23_Op (run cfg) x0 x1 x2 = some d) : (run cfg).p F_r23_Op [x0, x1, x2] = some d := callE Tryz.func136 (by kernel_rfl) (by kernel_rfl) (by kernel_rfl) h
noncomputable def P_r23_truth (R : Orc) (x0 : DV) : Option DV := eP Tryz.f137 fl_r23_truth R [] (initSt Tryz.f137 [(x0, .val)] [])
theorem eq_r23_truth (R : Orc) (x0 : DV) : P_r23_truth R x0 =
 (oif x0
  (some (.int .i64 1))
  (some (.int .i64 0))) := evP_of [] (by kernel_rfl)
theorem call_r23_truth (x0 : DV) {d : DV} (h : P_r23_truth (run cfg) x0 = some d) : (run cfg).p F_r23_truth [x0] = some d := callE Tryz.func137 (by kernel_rfl) (by kernel_rfl) (by kernel_rfl) h
noncomputable def code_tree_scope_look : Code := Tryz.f138.body.getD .skip
noncomputable def P_tree_scope_look (R : Orc) (x0 : Nat) (x1 : DV) (sg : List SObj) : Option (List DV × List SObj) := evP cfg R fl_tree_scope_look (retR cfg.P Tryz.f138 sig_tree_scope_look) [] code_tree_scope_look (initSt Tryz.f138 [(.undef, (.ptr x0 0)), (x1, .val)] sg)
noncomputable def P_tree_scope_look_21h (R : Orc) (t0i t3i : Nat) (t100 t101 t102 : DV) (sg : List SObj) : Option (List DV × List SObj) := headP cfg R fl_tree_scope_look (retR cfg.P Tryz.f138 sig_tree_scope_look) [true, true, false, true, true, true, true, true, true, true, true, true, false, true, true, false] code_tree_scope_look (mst 128 [(100, t100), (101, t101), (102, t102)] [(0, (.ptr t0i 0)), (3, (.ptr t3i 0))] [] sg)
noncomputable def P_tree_scope_look_3h (R : Orc) (t0i : Nat) (t13 t14 t15 : DV) (sg : List SObj) : Option (List DV × List SObj) := headP cfg R fl_tree_scope_look (retR cfg.P Tryz.f138 sig_tree_scope_look) [true, true, false, true, true, true, true, true, true, true, true, true, true, true, false] code_tree_scope_look (mst 128 [(13, t13), (14, t14), (15, t15)] [(0, (.ptr t0i 0))] [] sg)
noncomputable def P_tree_scope_look_r0 (R : Orc) (t0i t3i : Nat) (t4 : DV) (t5i t6i : Nat) (t100 t101 t102 t104 t105 t106 t107 : DV) (t108c0 : Nat) (sg : List SObj) : Option (List DV × List SObj) := evP cfg R fl_tree_scope_look (retR cfg.P Tryz.f138 sig_tree_scope_look) [true, true, false, true, true, true, true, true, true, true, true, true, false, true, true, false, false, true, true, false, false, true, true, false, true, false] code_tree_scope_look (mst 128 [(4, t4), (100, t100), (101, t101), (102, t102), (103, (.bool true)), (104, t104), (105, t105), (106, t106), (107, t107)] [(0, (.ptr t0i 0)), (3, (.ptr t3i 0)), (5, (.ptr t5i 0)), (6, (.ptr t6i 0)), (105, (.rop true 7 0)), (108, (.fn 194 [(t108c0, 0)]))] [] sg)
noncomputable def rcode_tree_scope_look_r0 : Code := match (sub [true, true, false, true, true, true, true, true, true, true, true, true, false, true, true, false, false, true, true, false, false, true, true, false, true, false] code_tree_scope_look []).1 with
 | .rangeFunc _ _ a b => .seq a b
 | c => c
noncomputable def X_tree_scope_look_r0 (R : Orc) (t0i t3i : Nat) (t4 : DV) (t5i t6i : Nat) (t100 t101 t102 t104 t105 t106 t107 : DV) (t108c0 : Nat) (o : Out) (sg : List SObj) : Option (List DV × List SObj) := konP cfg R fl_tree_scope_look (retR cfg.P Tryz.f138 sig_tree_scope_look) [true, true, false, true, true, true, true, true, true, true, true, true, false, true, true, false, false, true, true, false, false, true, true, false, true, false] code_tree_scope_look o (outerSt ⟨spread .undef 128 0 [(4, t4), (100, t100), (101, t101), (102, t102), (103, (.bool true)), (104, t104), (105, t105), (106, t106), (107, t107)], spread .val 128 0 [(0, (.ptr t0i 0)), (3, (.ptr t3i 0)), (5, (.ptr t5i 0)), (6, (.ptr t6i 0)), (105, (.rop true 7 0)), (108, (.fn 194 [(t108c0, 0)]))], spread none 128 0 [], []⟩ sg)
noncomputable def B_tree_scope_look_r0 (R : Orc) (t0i t3i : Nat) (t4 : DV) (t5i t6i : Nat) (t100 t101 t102 t104 t105 t106 t107 : DV) (t108c0 : Nat) (I : List SObj → Option (List DV × List SObj)) (x : DV) (sg : List SObj) : Option (List DV × List SObj) := evP cfg R fl_tree_scope_look (kr I (X_tree_scope_look_r0 R t0i t3i t4 t5i t6i t100 t101 t102 t104 t105 t106 t107 t108c0)) [] rcode_tree_scope_look_r0 (mst 128 [(109, x)] [(6, (.ptr t6i 0))] [] sg)
noncomputable def I_tree_scope_look_r0 (R : Orc) (t0i t3i : Nat) (t4 : DV) (t5i t6i : Nat) (t100 t101 t102 t104 t105 t106 t107 : DV) (t108c0 : Nat) : List DV → List SObj → Option (List DV × List SObj) := foldIt (fun x I sg => B_tree_scope_look_r0 R t0i t3i t4 t5i t6i t100 t101 t102 t104 t105 t106 t107 t108c0 I x sg) (X_tree_scope_look_r0 R t0i t3i t4 t5i t6i t100 t101 t102 t104 t105 t106 t107 t108c0 .normal)
set_option maxRecDepth 100000 in
theorem eq_tree_scope_look (R : Orc) (x0 : Nat) (x1 : DV) (sg : List SObj) : P_tree_scope_look R x0 x1 sg =
 (og (isAggN 16 x1) <|
 ob (sgBox (sg ++ [SObj.box [((proj 0 x1), .val), ((proj 1 x1), .val), ((proj 2 x1), .val), ((proj 3 x1), .val), ((proj 4 x1), .val), ((proj 5 x1), .val), ((proj 6 x1), .val), ((proj 7 x1), .val), ((proj 8 x1), .val), ((proj 9 x1), .val), ((proj 10 x1), .val), ((proj 11 x1), .val), ((proj 12 x1), .val), ((proj 13 x1), .val), ((proj 14 x1), .val), ((proj 15 x1), .val)]]) sg.length) fun c1 =>
 ob (cellDat c1 0) fun d2 =>
 ob (dBin .eql d2 (.int .i64 1)) fun d3 =>
 oif d3
  (ob (sgBox (sg ++ [SObj.box [((proj 0 x1), .val), ((proj 1 x1), .val), ((proj 2 x1), .val), ((proj 3 x1), .val), ((proj 4 x1), .val), ((proj 5 x1), .val), ((proj 6 x1), .val), ((proj 7 x1), .val), ((proj 8 x1), .val), ((proj 9 x1), .val), ((proj 10 x1), .val), ((proj 11 x1), .val), ((proj 12 x1), .val), ((proj 13 x1), .val), ((proj 14 x1), .val), ((proj 15 x1), .val)]]) x0) fun c4 =>
  ob (cellMap c4 0) fun i5 =>
  ob (sgBox (sg ++ [SObj.box [((proj 0 x1), .val), ((proj 1 x1), .val), ((proj 2 x1), .val), ((proj 3 x1), .val), ((proj 4 x1), .val), ((proj 5 x1), .val), ((proj 6 x1), .val), ((proj 7 x1), .val), ((proj 8 x1), .val), ((proj 9 x1), .val), ((proj 10 x1), .val), ((proj 11 x1), .val), ((proj 12 x1), .val), ((proj 13 x1), .val), ((proj 14 x1), .val), ((proj 15 x1), .val)]]) sg.length) fun c6 =>
  ob (cellDat c6 3) fun d7 =>
  og (isKey true d7 && true) <|
  ob (sgMap (sg ++ [SObj.box [((proj 0 x1), .val), ((proj 1 x1), .val), ((proj 2 x1), .val), ((proj 3 x1), .val), ((proj 4 x1), .val), ((proj 5 x1), .val), ((proj 6 x1), .val), ((proj 7 x1), .val), ((proj 8 x1), .val), ((proj 9 x1), .val), ((proj 10 x1), .val), ((proj 11 x1), .val), ((proj 12 x1), .val), ((proj 13 x1), .val), ((proj 14 x1), .val), ((proj 15 x1), .val)]]) i5) fun m8 =>
  og (m8.1 == true) <|
  ob (dBin .eql ((mGet m8.2 d7).getD (.int .i64 0)) (.int .i64 0)) fun d9 =>
  oif d9
   (ob (sgBox (sg ++ [SObj.box [((proj 0 x1), .val), ((proj 1 x1), .val), ((proj 2 x1), .val), ((proj 3 x1), .val), ((proj 4 x1), .val), ((proj 5 x1), .val), ((proj 6 x1), .val), ((proj 7 x1), .val), ((proj 8 x1), .val), ((proj 9 x1), .val), ((proj 10 x1), .val), ((proj 11 x1), .val), ((proj 12 x1), .val), ((proj 13 x1), .val), ((proj 14 x1), .val), ((proj 15 x1), .val)]]) x0) fun c10 =>
   ob (cellMap c10 1) fun i11 =>
   ob (sgBox (sg ++ [SObj.box [((proj 0 x1), .val), ((proj 1 x1), .val), ((proj 2 x1), .val), ((proj 3 x1), .val), ((proj 4 x1), .val), ((proj 5 x1), .val), ((proj 6 x1), .val), ((proj 7 x1), .val), ((proj 8 x1), .val), ((proj 9 x1), .val), ((proj 10 x1), .val), ((proj 11 x1), .val), ((proj 12 x1), .val), ((proj 13 x1), .val), ((proj 14 x1), .val), ((proj 15 x1), .val)]]) sg.length) fun c12 =>
   ob (cellDat c12 3) fun d13 =>
   og (isKey true d13 && true) <|
   ob (sgMap (sg ++ [SObj.box [((proj 0 x1), .val), ((proj 1 x1), .val), ((proj 2 x1), .val), ((proj 3 x1), .val), ((proj 4 x1), .val), ((proj 5 x1), .val), ((proj 6 x1), .val), ((proj 7 x1), .val), ((proj 8 x1), .val), ((proj 9 x1), .val), ((proj 10 x1), .val), ((proj 11 x1), .val), ((proj 12 x1), .val), ((proj 13 x1), .val), ((proj 14 x1), .val), ((proj 15 x1), .val)]]) i11) fun m14 =>
   og (m14.1 == true) <|
   ob (dBin .add ((mGet m14.2 d13).getD (.int .i64 0)) (.int .i64 1)) fun d15 =>
   og (isKey true d13 && true && true) <|
   ob (sgMap (sg ++ [SObj.box [((proj 0 x1), .val), ((proj 1 x1), .val), ((proj 2 x1), .val), ((proj 3 x1), .val), ((proj 4 x1), .val), ((proj 5 x1), .val), ((proj 6 x1), .val), ((proj 7 x1), .val), ((proj 8 x1), .val), ((proj 9 x1), .val), ((proj 10 x1), .val), ((proj 11 x1), .val), ((proj 12 x1), .val), ((proj 13 x1), .val), ((proj 14 x1), .val), ((proj 15 x1), .val)]]) i11) fun m16 =>
   og (m16.1 == true) <|
   some ([], ((sg ++ [SObj.box [((proj 0 x1), .val), ((proj 1 x1), .val), ((proj 2 x1), .val), ((proj 3 x1), .val), ((proj 4 x1), .val), ((proj 5 x1), .val), ((proj 6 x1), .val), ((proj 7 x1), .val), ((proj 8 x1), .val), ((proj 9 x1), .val), ((proj 10 x1), .val), ((proj 11 x1), .val), ((proj 12 x1), .val), ((proj 13 x1), .val), ((proj 14 x1), .val), ((proj 15 x1), .val)]]).set i11 (.map true (mSet m16.2 d13 d15)))))
   (some ([], (sg ++ [SObj.box [((proj 0 x1), .val), ((proj 1 x1), .val), ((proj 2 x1), .val), ((proj 3 x1), .val), ((proj 4 x1), .val), ((proj 5 x1), .val), ((proj 6 x1), .val), ((proj 7 x1), .val), ((proj 8 x1), .val), ((proj 9 x1), .val), ((proj 10 x1), .val), ((proj 11 x1), .val), ((proj 12 x1), .val), ((proj 13 x1), .val), ((proj 14 x1), .val), ((proj 15 x1), .val)]]))))
  (ob (dBin .eql d2 (.int .i64 9)) fun d17 =>
  oif d17
   (ob (sgBox (sg ++ [SObj.box [((proj 0 x1), .val), ((proj 1 x1), .val), ((proj 2 x1), .val), ((proj 3 x1), .val), ((proj 4 x1), .val), ((proj 5 x1), .val), ((proj 6 x1), .val), ((proj 7 x1), .val), ((proj 8 x1), .val), ((proj 9 x1), .val), ((proj 10 x1), .val), ((proj 11 x1), .val), ((proj 12 x1), .val), ((proj 13 x1), .val), ((proj 14 x1), .val), ((proj 15 x1), .val)]]) sg.length) fun c18 =>
   ob (cellDat c18 15) fun d19 =>
   ob (dIdx 16 d19 (.int .i64 0)) fun d20 =>
   ob (sgBox (sg ++ [SObj.box [((proj 0 x1), .val), ((proj 1 x1), .val), ((proj 2 x1), .val), ((proj 3 x1), .val), ((proj 4 x1), .val), ((proj 5 x1), .val), ((proj 6 x1), .val), ((proj 7 x1), .val), ((proj 8 x1), .val), ((proj 9 x1), .val), ((proj 10 x1), .val), ((proj 11 x1), .val), ((proj 12 x1), .val), ((proj 13 x1), .val), ((proj 14 x1), .val), ((proj 15 x1), .val)]]) sg.length) fun c21 =>
   ob (cellDat c21 3) fun d22 =>
   og (isCell d22) <|
   ob (R.r F_tree_scope_with [(.undef, (.ptr x0 0)), ((ag16 d20), .val), ((.list 1 [d22]), .val)] (sg ++ [SObj.box [((proj 0 x1), .val), ((proj 1 x1), .val), ((proj 2 x1), .val), ((proj 3 x1), .val), ((proj 4 x1), .val), ((proj 5 x1), .val), ((proj 6 x1), .val), ((proj 7 x1), .val), ((proj 8 x1), .val), ((proj 9 x1), .val), ((proj 10 x1), .val), ((proj 11 x1), .val), ((proj 12 x1), .val), ((proj 13 x1), .val), ((proj 14 x1), .val), ((proj 15 x1), .val)]])) fun q23 =>
   some ([], q23.2))
   (ob (dBin .eql d2 (.int .i64 11)) fun d24 =>
   oif d24
    (ob (sgBox (sg ++ [SObj.box [((proj 0 x1), .val), ((proj 1 x1), .val), ((proj 2 x1), .val), ((proj 3 x1), .val), ((proj 4 x1), .val), ((proj 5 x1), .val), ((proj 6 x1), .val), ((proj 7 x1), .val), ((proj 8 x1), .val), ((proj 9 x1), .val), ((proj 10 x1), .val), ((proj 11 x1), .val), ((proj 12 x1), .val), ((proj 13 x1), .val), ((proj 14 x1), .val), ((proj 15 x1), .val)]]) sg.length) fun c25 =>
    ob (cellDat c25 15) fun d26 =>
    ob (dIdx 16 d26 (.int .i64 0)) fun d27 =>
    ob (R.r F_tree_scope_with [(.undef, (.ptr x0 0)), ((ag16 d27), .val), ((.list 1 []), .val)] (sg ++ [SObj.box [((proj 0 x1), .val), ((proj 1 x1), .val), ((proj 2 x1), .val), ((proj 3 x1), .val), ((proj 4 x1), .val), ((proj 5 x1), .val), ((proj 6 x1), .val), ((proj 7 x1), .val), ((proj 8 x1), .val), ((proj 9 x1), .val), ((proj 10 x1), .val), ((proj 11 x1), .val), ((proj 12 x1), .val), ((proj 13 x1), .val), ((proj 14 x1), .val), ((proj 15 x1), .val)]])) fun q28 =>
    ob (sgBox q28.2 sg.length) fun c29 =>
    ob (cellDat c29 15) fun d30 =>
    ob (dIdx 16 d30 (.int .i64 1)) fun d31 =>
    ob (sgBox q28.2 sg.length) fun c32 =>
    ob (cellDat c32 3) fun d33 =>
    og (isCell d33) <|
    ob (R.r F_tree_scope_with [(.undef, (.ptr x0 0)), ((ag16 d31), .val), ((.list 1 [d33]), .val)] q28.2) fun q34 =>
    some ([], q34.2))
    (ob (dBin .eql d2 (.int .i64 12)) fun d35 =>
    oif d35
     (ob (sgBox (sg ++ [SObj.box [((proj 0 x1), .val), ((proj 1 x1), .val), ((proj 2 x1), .val), ((proj 3 x1), .val), ((proj 4 x1), .val), ((proj 5 x1), .val), ((proj 6 x1), .val), ((proj 7 x1), .val), ((proj 8 x1), .val), ((proj 9 x1), .val), ((proj 10 x1), .val), ((proj 11 x1), .val), ((proj 12 x1), .val), ((proj 13 x1), .val), ((proj 14 x1), .val), ((proj 15 x1), .val)]]) sg.length) fun c36 =>
     ob (cellDat c36 15) fun d37 =>
     ob (dIdx 16 d37 (.int .i64 0)) fun d38 =>
     ob (sgBox (sg ++ [SObj.box [((proj 0 x1), .val), ((proj 1 x1), .val), ((proj 2 x1), .val), ((proj 3 x1), .val), ((proj 4 x1), .val), ((proj 5 x1), .val), ((proj 6 x1), .val), ((proj 7 x1), .val), ((proj 8 x1), .val), ((proj 9 x1), .val), ((proj 10 x1), .val), ((proj 11 x1), .val), ((proj 12 x1), .val), ((proj 13 x1), .val), ((proj 14 x1), .val), ((proj 15 x1), .val)]]) sg.length) fun c39 =>
     ob (cellDat c39 3) fun d40 =>
     ob (sgBox (sg ++ [SObj.box [((proj 0 x1), .val), ((proj 1 x1), .val), ((proj 2 x1), .val), ((proj 3 x1), .val), ((proj 4 x1), .val), ((proj 5 x1), .val), ((proj 6 x1), .val), ((proj 7 x1), .val), ((proj 8 x1), .val), ((proj 9 x1), .val), ((proj 10 x1), .val), ((proj 11 x1), .val), ((proj 12 x1), .val), ((proj 13 x1), .val), ((proj 14 x1), .val), ((proj 15 x1), .val)]]) sg.length) fun c41 =>
     ob (cellDat c41 4) fun d42 =>
     og (isCell d40) <|
     og (isCell d42) <|
     ob (R.r F_tree_scope_with [(.undef, (.ptr x0 0)), ((ag16 d38), .val), ((.list 1 [d40, d42]), .val)] (sg ++ [SObj.box [((proj 0 x1), .val), ((proj 1 x1), .val), ((proj 2 x1), .val), ((proj 3 x1), .val), ((proj 4 x1), .val), ((proj 5 x1), .val), ((proj 6 x1), .val), ((proj 7 x1), .val), ((proj 8 x1), .val), ((proj 9 x1), .val), ((proj 10 x1), .val), ((proj 11 x1), .val), ((proj 12 x1), .val), ((proj 13 x1), .val), ((proj 14 x1), .val), ((proj 15 x1), .val)]])) fun q43 =>
     ob (sgBox q43.2 sg.length) fun c44 =>
     ob (cellDat c44 15) fun d45 =>
     ob (dIdx 16 d45 (.int .i64 1)) fun d46 =>
     ob (sgBox q43.2 sg.length) fun c47 =>
     ob (cellDat c47 3) fun d48 =>
     og (isCell d48) <|
     ob (R.r F_tree_scope_with [(.undef, (.ptr x0 0)), ((ag16 d46), .val), ((.list 1 [d48]), .val)] q43.2) fun q49 =>
     some ([], q49.2))
     (ob (dBin .eql d2 (.int .i64 14)) fun d50 =>
     oif d50
      (ob (sgBox (sg ++ [SObj.box [((proj 0 x1), .val), ((proj 1 x1), .val), ((proj 2 x1), .val), ((proj 3 x1), .val), ((proj 4 x1), .val), ((proj 5 x1), .val), ((proj 6 x1), .val), ((proj 7 x1), .val), ((proj 8 x1), .val), ((proj 9 x1), .val), ((proj 10 x1), .val), ((proj 11 x1), .val), ((proj 12 x1), .val), ((proj 13 x1), .val), ((proj 14 x1), .val), ((proj 15 x1), .val)]]) sg.length) fun c51 =>
      ob (cellDat c51 15) fun d52 =>
      ob (dIdx 16 d52 (.int .i64 0)) fun d53 =>
      ob (R.r F_tree_scope_with [(.undef, (.ptr x0 0)), ((ag16 d53), .val), ((.list 1 []), .val)] (sg ++ [SObj.box [((proj 0 x1), .val), ((proj 1 x1), .val), ((proj 2 x1), .val), ((proj 3 x1), .val), ((proj 4 x1), .val), ((proj 5 x1), .val), ((proj 6 x1), .val), ((proj 7 x1), .val), ((proj 8 x1), .val), ((proj 9 x1), .val), ((proj 10 x1), .val), ((proj 11 x1), .val), ((proj 12 x1), .val), ((proj 13 x1), .val), ((proj 14 x1), .val), ((proj 15 x1), .val)]])) fun q54 =>
      ob (sgBox q54.2 sg.length) fun c55 =>
      ob (cellDat c55 14) fun d56 =>
      ob (dLen d56) fun d57 =>
      P_tree_scope_look_21h R x0 (sg.length) d56 d57 (.int .i64 0) q54.2)
      (ob (sgBox (sg ++ [SObj.box [((proj 0 x1), .val), ((proj 1 x1), .val), ((proj 2 x1), .val), ((proj 3 x1), .val), ((proj 4 x1), .val), ((proj 5 x1), .val), ((proj 6 x1), .val), ((proj 7 x1), .val), ((proj 8 x1), .val), ((proj 9 x1), .val), ((proj 10 x1), .val), ((proj 11 x1), .val), ((proj 12 x1), .val), ((proj 13 x1), .val), ((proj 14 x1), .val), ((proj 15 x1), .val)]]) sg.length) fun c58 =>
      ob (cellDat c58 15) fun d59 =>
      ob (dLen d59) fun d60 =>
      P_tree_scope_look_3h R x0 d59 d60 (.int .i64 0) (sg ++ [SObj.box [((proj 0 x1), .val), ((proj 1 x1), .val), ((proj 2 x1), .val), ((proj 3 x1), .val), ((proj 4 x1), .val), ((proj 5 x1), .val), ((proj 6 x1), .val), ((proj 7 x1), .val), ((proj 8 x1), .val), ((proj 9 x1), .val), ((proj 10 x1), .val), ((proj 11 x1), .val), ((proj 12 x1), .val), ((proj 13 x1), .val), ((proj 14 x1), .val), ((proj 15 x1), .val)]]))))))) := evP_of [] (by kernel_rfl)
theorem eq_tree_scope_look_21h (R : Orc) (t0i t3i : Nat) (t100 t101 t102 : DV) (sg : List SObj) : P_tree_scope_look_21h R t0i t3i t100 t101 t102 sg =
 (ob (dBin .lss t102 t101) fun d1 =>
 oif d1
  (ob (dIdx 7 t100 t102) fun d2 =>
  ob (sgBox (sg ++ [SObj.box [((.int .i64 0), .val), ((.int .i64 0), .val), ((.int .i64 0), .val), ((.str ⟨#[]⟩), .val), ((.int .i64 0), .val), ((.str ⟨#[]⟩), .val), ((.list 7 []), .full)]]) sg.length) fun c3 =>
  if 0 + 7 ≤ c3.length then
   (ob (sgBox (((sg ++ [SObj.box [((.int .i64 0), .val), ((.int .i64 0), .val), ((.int .i64 0), .val), ((.str ⟨#[]⟩), .val), ((.int .i64 0), .val), ((.str ⟨#[]⟩), .val), ((.list 7 []), .full)]]).set sg.length (SObj.box (putAt c3 0 [((proj 0 d2), .val), ((proj 1 d2), .val), ((proj 2 d2), .val), ((proj 3 d2), .val), ((proj 4 d2), .val), ((proj 5 d2), .val), ((proj 6 d2), .val)]))) ++ [SObj.box [((.list 1 []), .full)]]) sg.length) fun c4 =>
   ob (segDat 0 7 c4) fun e5 =>
   ob (aggD (.agg e5)) fun c6 =>
   og (true && c6.length == 7) <|
   P_tree_scope_look_r0 R t0i t3i t102 (sg.length) ((((sg ++ [SObj.box [((.int .i64 0), .val), ((.int .i64 0), .val), ((.int .i64 0), .val), ((.str ⟨#[]⟩), .val), ((.int .i64 0), .val), ((.str ⟨#[]⟩), .val), ((.list 7 []), .full)]]).set sg.length (SObj.box (putAt c3 0 [((proj 0 d2), .val), ((proj 1 d2), .val), ((proj 2 d2), .val), ((proj 3 d2), .val), ((proj 4 d2), .val), ((proj 5 d2), .val), ((proj 6 d2), .val)])))).length) t100 t101 t102 t102 d2 (ag7 d2) (.agg e5) (((((sg ++ [SObj.box [((.int .i64 0), .val), ((.int .i64 0), .val), ((.int .i64 0), .val), ((.str ⟨#[]⟩), .val), ((.int .i64 0), .val), ((.str ⟨#[]⟩), .val), ((.list 7 []), .full)]]).set sg.length (SObj.box (putAt c3 0 [((proj 0 d2), .val), ((proj 1 d2), .val), ((proj 2 d2), .val), ((proj 3 d2), .val), ((proj 4 d2), .val), ((proj 5 d2), .val), ((proj 6 d2), .val)]))) ++ [SObj.box [((.list 1 []), .full)]])).length) ((((sg ++ [SObj.box [((.int .i64 0), .val), ((.int .i64 0), .val), ((.int .i64 0), .val), ((.str ⟨#[]⟩), .val), ((.int .i64 0), .val), ((.str ⟨#[]⟩), .val), ((.list 7 []), .full)]]).set sg.length (SObj.box (putAt c3 0 [((proj 0 d2), .val), ((proj 1 d2), .val), ((proj 2 d2), .val), ((proj 3 d2), .val), ((proj 4 d2), .val), ((proj 5 d2), .val), ((proj 6 d2), .val)]))) ++ [SObj.box [((.list 1 []), .full)]]) ++ [SObj.box (c6.map fun d => (d, .val))]))
  else none)
  (some ([], sg))) := headP_of [] (by kernel_rfl)
theorem eq_tree_scope_look_3h (R : Orc) (t0i : Nat) (t13 t14 t15 : DV) (sg : List SObj) : P_tree_scope_look_3h R t0i t13 t14 t15 sg =
 (ob (dBin .lss t15 t14) fun d1 =>
 oif d1
  (ob (dIdx 16 t13 t15) fun d2 =>
  ob (sgBox (sg ++ [SObj.box [((.int .i64 0), .val), ((.int .i64 0), .val), ((.int .i64 0), .val), ((.str ⟨#[]⟩), .val), ((.str ⟨#[]⟩), .val), ((.int .i64 0), .val), ((.str ⟨#[]⟩), .val), ((.int .i64 0), .val), ((.int .i64 0), .val), ((.int .i64 0), .val), ((.list 3 []), .full), ((.int .i64 0), .val), ((.int .i64 0), .val), ((.list 3 []), .full), ((.list 7 []), .full), ((.list 16 []), .full)]]) sg.length) fun c3 =>
  if 0 + 16 ≤ c3.length then
   (ob (sgBox ((sg ++ [SObj.box [((.int .i64 0), .val), ((.int .i64 0), .val), ((.int .i64 0), .val), ((.str ⟨#[]⟩), .val), ((.str ⟨#[]⟩), .val), ((.int .i64 0), .val), ((.str ⟨#[]⟩), .val), ((.int .i64 0), .val), ((.int .i64 0), .val), ((.int .i64 0), .val), ((.list 3 []), .full), ((.int .i64 0), .val), ((.int .i64 0), .val), ((.list 3 []), .full), ((.list 7 []), .full), ((.list 16 []), .full)]]).set sg.length (SObj.box (putAt c3 0 [((proj 0 d2), .val), ((proj 1 d2), .val), ((proj 2 d2), .val), ((proj 3 d2), .val), ((proj 4 d2), .val), ((proj 5 d2), .val), ((proj 6 d2), .val), ((proj 7 d2), .val), ((proj 8 d2), .val), ((proj 9 d2), .val), ((proj 10 d2), .val), ((proj 11 d2), .val), ((proj 12 d2), .val), ((proj 13 d2), .val), ((proj 14 d2), .val), ((proj 15 d2), .val)]))) sg.length) fun c4 =>
   ob (segDat 0 16 c4) fun e5 =>
   ob (R.r F_tree_scope_with [(.undef, (.ptr t0i 0)), ((.agg e5), .val), ((.list 1 []), .val)] ((sg ++ [SObj.box [((.int .i64 0), .val), ((.int .i64 0), .val), ((.int .i64 0), .val), ((.str ⟨#[]⟩), .val), ((.str ⟨#[]⟩), .val), ((.int .i64 0), .val), ((.str ⟨#[]⟩), .val), ((.int .i64 0), .val), ((.int .i64 0), .val), ((.int .i64 0), .val), ((.list 3 []), .full), ((.int .i64 0), .val), ((.int .i64 0), .val), ((.list 3 []), .full), ((.list 7 []), .full), ((.list 16 []), .full)]]).set sg.length (SObj.box (putAt c3 0 [((proj 0 d2), .val), ((proj 1 d2), .val), ((proj 2 d2), .val), ((proj 3 d2), .val), ((proj 4 d2), .val), ((proj 5 d2), .val), ((proj 6 d2), .val), ((proj 7 d2), .val), ((proj 8 d2), .val), ((proj 9 d2), .val), ((proj 10 d2), .val), ((proj 11 d2), .val), ((proj 12 d2), .val), ((proj 13 d2), .val), ((proj 14 d2), .val), ((proj 15 d2), .val)])))) fun q6 =>
   ob (dBin .add t15 (.int .i64 1)) fun d7 =>
   P_tree_scope_look_3h R t0i t13 t14 d7 q6.2)
  else none)
  (some ([], sg))) := headP_of [] (by kernel_rfl)
theorem eq_tree_scope_look_r0 (R : Orc) (t0i t3i : Nat) (t4 : DV) (t5i t6i : Nat) (t100 t101 t102 t104 t105 t106 t107 : DV) (t108c0 : Nat) (sg : List SObj) : P_tree_scope_look_r0 R t0i t3i t4 t5i t6i t100 t101 t102 t104 t105 t106 t107 t108c0 sg =
 ob (sgBox sg t108c0) fun cs => ob (allDat cs) fun cd => ob (flatD 7 6 cd) fun ds => I_tree_scope_look_r0 R t0i t3i t4 t5i t6i t100 t101 t102 t104 t105 t106 t107 t108c0 ds (sg.set t108c0 (.arr 1 [])) :=
 (rangeP2 (t := 108) (f := 194) (i := t108c0) (q := 109) (it := flatD 7 6) (by kernel_rfl) (by kernel_rfl) (by kernel_rfl) (by kernel_rfl)).trans (by kernel_rfl)
theorem I_tree_scope_look_r0_nil (R : Orc) (t0i t3i : Nat) (t4 : DV) (t5i t6i : Nat) (t100 t101 t102 t104 t105 t106 t107 : DV) (t108c0 : Nat) (sg : List SObj) : I_tree_scope_look_r0 R t0i t3i t4 t5i t6i t100 t101 t102 t104 t105 t106 t107 t108c0 [] sg = X_tree_scope_look_r0 R t0i t3i t4 t5i t6i t100 t101 t102 t104 t105 t106 t107 t108c0 .normal sg := rfl
theorem I_tree_scope_look_r0_cons (R : Orc) (t0i t3i : Nat) (t4 : DV) (t5i t6i : Nat) (t100 t101 t102 t104 t105 t106 t107 : DV) (t108c0 : Nat) (x : DV) (ds : List DV) (sg : List SObj) : I_tree_scope_look_r0 R t0i t3i t4 t5i t6i t100 t101 t102 t104 t105 t106 t107 t108c0 (x :: ds) sg = B_tree_scope_look_r0 R t0i t3i t4 t5i t6i t100 t101 t102 t104 t105 t106 t107 t108c0 (I_tree_scope_look_r0 R t0i t3i t4 t5i t6i t100 t101 t102 t104 t105 t106 t107 t108c0 ds) x sg := rfl
theorem eq_B_tree_scope_look_r0 (R : Orc) (t0i t3i : Nat) (t4 : DV) (t5i t6i : Nat) (t100 t101 t102 t104 t105 t106 t107 : DV) (t108c0 : Nat) (I : List SObj → Option (List DV × List SObj)) (x : DV) (sg : List SObj) : B_tree_scope_look_r0 R t0i t3i t4 t5i t6i t100 t101 t102 t104 t105 t106 t107 t108c0 I x sg =
 (og (isAggN 7 x) <|
 ob (dBin .eql (proj 0 x) (.int .i64 2)) fun d1 =>
 oif d1
  (ob (sgBox sg t6i) fun c2 =>
  ob (cellOwn c2 0) fun d3 =>
  og (isCell (proj 3 x)) <|
  ob (dApp 1 d3 (.list 1 [(proj 3 x)])) fun d4 =>
  ob (sgBox (sg.set t6i (SObj.box (c2.set 0 (d3, .val)))) t6i) fun c5 =>
  ob (c5[0]?) fun u6 =>
  I ((sg.set t6i (SObj.box (c2.set 0 (d3, .val)))).set t6i (SObj.box (c5.set 0 (d4, .own)))))
  (I sg)) := evP_of [] (by kernel_rfl)
theorem eq_X_tree_scope_look_r0_normal (R : Orc) (t0i t3i : Nat) (t4 : DV) (t5i t6i : Nat) (t100 t101 t102 t104 t105 t106 t107 : DV) (t108c0 : Nat) (sg : List SObj) : X_tree_scope_look_r0 R t0i t3i t4 t5i t6i t100 t101 t102 t104 t105 t106 t107 t108c0 .normal sg =
 (ob (sgBox sg t3i) fun c1 =>
 ob (cellDat c1 15) fun d2 =>
 ob (dBin .add t4 (.int .i64 1)) fun d3 =>
 ob (dIdx 16 d2 d3) fun d4 =>
 ob (sgBox sg t6i) fun c5 =>
 ob (cellDat c5 0) fun d6 =>
 ob (R.r F_tree_scope_with [(.undef, (.ptr t0i 0)), ((ag16 d4), .val), (d6, .val)] sg) fun q7 =>
 ob (dBin .add t102 (.int .i64 1)) fun d8 =>
 P_tree_scope_look_21h R t0i t3i t100 t101 d8 q7.2) := konP_of [] (by kernel_rfl)
theorem fix_tree_scope_look (x0 : Nat) (x1 : DV) (sg : List SObj) : (run cfg).r F_tree_scope_look [(.undef, (.ptr x0 0)), (x1, .val)] sg = P_tree_scope_look (run cfg) x0 x1 sg :=
 (fix_raw (C := cfg) (f := F_tree_scope_look) (s := sig_tree_scope_look) (fn := Tryz.f138) (c := code_tree_scope_look) (by kernel_rfl) Tryz.func138 (by kernel_rfl)).trans (by kernel_rfl)
theorem call_tree_scope_look (x0 : Nat) (x1 : DV) (sg : List SObj) {q : List DV × List SObj} (h : P_tree_scope_look (run cfg) x0 x1 sg = some q) : (run cfg).r F_tree_scope_look [(.undef, (.ptr x0 0)), (x1, .val)] sg = some q := (fix_tree_scope_look x0 x1 sg).trans h
noncomputable def code_erase_matches : Code := Tryz.f139.body.getD .skip
noncomputable def P_erase_matches (R : Orc) (x0 x1 x2 : DV) (sg : List SObj) : Option (List DV × List SObj) := evP cfg R fl_erase_matches (retR cfg.P Tryz.f139 sig_erase_matches) [] code_erase_matches (initSt Tryz.f139 [(x0, .val), (x1, .val), (x2, .own)] sg)
noncomputable def P_erase_matches_21 (R : Orc) (t2 t8 b3 b4 : DV) (sg : List SObj) : Option (List DV × List SObj) := evP cfg R fl_erase_matches (retR cfg.P Tryz.f139 sig_erase_matches) [true, true, true] code_erase_matches (mst 98 [(2, t2), (8, t8)] [(2, .own), (3, (.loc 3 0)), (4, (.loc 4 0))] [(3, some (bxs b3 0 7)), (4, some (bxs b4 0 16))] sg)
theorem eq_erase_matches (R : Orc) (x0 x1 x2 : DV) (sg : List SObj) : P_erase_matches R x0 x1 x2 sg =
 (og (isAggN 7 x0) <|
 og (isAggN 16 x1) <|
 ob (dBin .eql (proj 0 x0) (.int .i64 1)) fun d1 =>
 oif d1
  (some ([x2, (.bool true)], sg))
  (ob (dBin .eql (proj 0 x0) (.int .i64 2)) fun d2 =>
  oif d2
   (og (isCell (proj 3 x0)) <|
   ob (dApp 17 x2 (.list 17 [(.agg [(proj 3 x0), (proj 0 x1), (proj 1 x1), (proj 2 x1), (proj 3 x1), (proj 4 x1), (proj 5 x1), (proj 6 x1), (proj 7 x1), (proj 8 x1), (proj 9 x1), (proj 10 x1), (proj 11 x1), (proj 12 x1), (proj 13 x1), (proj 14 x1), (proj 15 x1)])])) fun d3 =>
   some ([d3, (.bool true)], sg))
   (ob (dBin .eql (proj 0 x0) (.int .i64 3)) fun d4 =>
   oif d4
    (P_erase_matches_21 R x2 (.int .i64 2) x0 x1 sg)
    (ob (dBin .eql (proj 0 x0) (.int .i64 4)) fun d5 =>
    oif d5
     (P_erase_matches_21 R x2 (.int .i64 3) x0 x1 sg)
     (ob (dBin .eql (proj 0 x0) (.int .i64 5)) fun d6 =>
     oif d6
      (P_erase_matches_21 R x2 (.int .i64 4) x0 x1 sg)
      (ob (dBin .eql (proj 0 x0) (.int .i64 6)) fun d7 =>
      oif d7
       (P_erase_matches_21 R x2 (.int .i64 5) x0 x1 sg)
       (ob (dBin .eql (proj 0 x0) (.int .i64 8)) fun d8 =>
       oif d8
        (P_erase_matches_21 R x2 (.int .i64 7) x0 x1 sg)
        (ob (dBin .eql (proj 0 x0) (.int .i64 7)) fun d9 =>
        oif d9
         (P_erase_matches_21 R x2 (.int .i64 6) x0 x1 sg)
         (ob (dBin .eql (proj 0 x0) (.int .i64 9)) fun d10 =>
         oif d10
          (P_erase_matches_21 R x2 (.int .i64 8) x0 x1 sg)
          (P_erase_matches_21 R x2 (.int .i64 0) x0 x1 sg)))))))))) := evP_of [21] (by kernel_rfl)
set_option maxRecDepth 100000 in
theorem eq_erase_matches_21 (R : Orc) (t2 t8 b3 b4 : DV) (sg : List SObj) : P_erase_matches_21 R t2 t8 b3 b4 sg =
 (ob (dBin .neq (proj 0 b4) t8) fun d1 =>
 oif d1
  (some ([t2, (.bool false)], sg))
  (ob (dLen (proj 6 b3)) fun d2 =>
  ob (dBin .eql d2 (.int .i64 0)) fun d3 =>
  oif d3
   (ob (dBin .eql (proj 0 b4) (.int .i64 5)) fun d4 =>
   ogd d4
    (some ([t2, (.bool true)], sg))
    (ob (dBin .eql (proj 0 b4) (.int .i64 7)) fun d5 =>
    ogd d5
     (some ([t2, (.bool true)], sg))
     (ob (dBin .eql (proj 5 b4) (proj 4 b3)) fun d6 =>
     ogd d6
      (ob (dBin .eql (proj 6 b4) (proj 5 b3)) fun d7 =>
      some ([t2, d7], sg))
      (some ([t2, (.bool false)], sg))
      none)
     none)
    none)
   (ob (dIdx 7 (proj 6 b3) (.int .i64 0)) fun d8 =>
   ob (dIdx 16 (proj 15 b4) (.int .i64 0)) fun d9 =>
   ob (R.r F_erase_matches [((ag7 d8), .val), ((ag16 d9), .val), (t2, .own)] sg) fun q10 =>
   ob (dExt 0 (.tup q10.1)) fun d11 =>
   ob (dExt 1 (.tup q10.1)) fun d12 =>
   ob (dUn .not d12) fun d13 =>
   oif d13
    (some ([d11, (.bool false)], q10.2))
    (ob (dIdx 7 (proj 6 b3) (.int .i64 1)) fun d14 =>
    ob (dIdx 16 (proj 15 b4) (.int .i64 1)) fun d15 =>
    ob (R.r F_erase_matches [((ag7 d14), .val), ((ag16 d15), .val), (d11, .own)] q10.2) fun q16 =>
    ob (dExt 0 (.tup q16.1)) fun d17 =>
    ob (dExt 1 (.tup q16.1)) fun d18 =>
    some ([d17, d18], q16.2))))) := evP_of [21] (by kernel_rfl)
theorem fix_erase_matches (x0 x1 x2 : DV) (sg : List SObj) : (run cfg).r F_erase_matches [(x0, .val), (x1, .val), (x2, .own)] sg = P_erase_matches (run cfg) x0 x1 x2 sg :=
 (fix_raw (C := cfg) (f := F_erase_matches) (s := sig_erase_matches) (fn := Tryz.f139) (c := code_erase_matches) (by kernel_rfl) Tryz.func139 (by kernel_rfl)).trans (by kernel_rfl)
theorem call_erase_matches (x0 x1 x2 : DV) (sg : List SObj) {q : List DV × List SObj} (h : P_erase_matches (run cfg) x0 x1 x2 sg = some q) : (run cfg).r F_erase_matches [(x0, .val), (x1, .val), (x2, .own)] sg = some q := (fix_erase_matches x0 x1 x2 sg).trans h
noncomputable def P_tree_shapeOf (R : Orc) (x0 : DV) : Option DV := eP Tryz.f142 fl_tree_shapeOf R [] (initSt Tryz.f142 [(x0, .val)] [])
set_option maxRecDepth 100000 in
theorem eq_tree_shapeOf (R : Orc) (x0 : DV) : P_tree_shapeOf R x0 =
 (og (isAggN 16 x0) <|
 ob (dBin .eql (proj 0 x0) (.int .i64 1)) fun d1 =>
 oif d1
  (some (.tup [(.agg [(.bool true), (.bool false), (.bool false), (.bool false), (.bool false), (.bool false), (.bool false), (.bool false), (.int .i64 0)]), (.bool true)]))
  (ob (dBin .eql (proj 0 x0) (.int .i64 2)) fun d2 =>
  oif d2
   (some (.tup [(.agg [(.bool false), (.bool false), (.bool true), (.bool false), (.bool false), (.bool false), (.bool false), (.bool false), (.int .i64 0)]), (.bool true)]))
   (ob (dBin .eql (proj 0 x0) (.int .i64 3)) fun d3 =>
   oif d3
    (some (.tup [(.agg [(.bool false), (.bool false), (.bool true), (.bool false), (.bool false), (.bool false), (.bool false), (.bool false), (.int .i64 0)]), (.bool true)]))
    (ob (dBin .eql (proj 0 x0) (.int .i64 4)) fun d4 =>
    oif d4
     (some (.tup [(.agg [(.bool false), (.bool false), (.bool false), (.bool true), (.bool false), (.bool false), (.bool false), (.bool false), (.int .i64 0)]), (.bool true)]))
     (ob (dBin .eql (proj 0 x0) (.int .i64 5)) fun d5 =>
     oif d5
      (some (.tup [(.agg [(.bool false), (.bool false), (.bool false), (.bool false), (.bool false), (.bool false), (.bool false), (.bool false), (.int .i64 0)]), (.bool true)]))
      (ob (dBin .eql (proj 0 x0) (.int .i64 7)) fun d6 =>
      oif d6
       (some (.tup [(.agg [(.bool false), (.bool false), (.bool false), (.bool false), (.bool false), (.bool false), (.bool false), (.bool false), (.int .i64 0)]), (.bool true)]))
       (ob (dBin .eql (proj 0 x0) (.int .i64 6)) fun d7 =>
       oif d7
        (some (.tup [(.agg [(.bool false), (.bool false), (.bool false), (.bool false), (.bool false), (.bool false), (.bool false), (.bool false), (.int .i64 2)]), (.bool true)]))
        (ob (dBin .eql (proj 0 x0) (.int .i64 8)) fun d8 =>
        oif d8
         (some (.tup [(.agg [(.bool false), (.bool false), (.bool false), (.bool false), (.bool false), (.bool false), (.bool false), (.bool false), (.int .i64 2)]), (.bool true)]))
         (ob (dBin .eql (proj 0 x0) (.int .i64 10)) fun d9 =>
         oif d9
          (some (.tup [(.agg [(.bool false), (.bool false), (.bool false), (.bool false), (.bool false), (.bool false), (.bool false), (.bool false), (.int .i64 2)]), (.bool true)]))
          (ob (dBin .eql (proj 0 x0) (.int .i64 9)) fun d10 =>
          oif d10
           (some (.tup [(.agg [(.bool true), (.bool false), (.bool false), (.bool false), (.bool false), (.bool true), (.bool false), (.bool false), (.int .i64 1)]), (.bool true)]))
           (ob (dBin .eql (proj 0 x0) (.int .i64 11)) fun d11 =>
           oif d11
            (some (.tup [(.agg [(.bool true), (.bool false), (.bool false), (.bool false), (.bool false), (.bool true), (.bool false), (.bool false), (.int .i64 2)]), (.bool true)]))
            (ob (dBin .eql (proj 0 x0) (.int .i64 12)) fun d12 =>
            oif d12
             (some (.tup [(.agg [(.bool true), (.bool true), (.bool false), (.bool false), (.bool false), (.bool true), (.bool true), (.bool false), (.int .i64 2)]), (.bool true)]))
             (ob (dBin .eql (proj 0 x0) (.int .i64 13)) fun d13 =>
             oif d13
              (some (.tup [(.agg [(.bool false), (.bool false), (.bool false), (.bool false), (.bool false), (.bool false), (.bool false), (.bool false), (.int .i64 3)]), (.bool true)]))
              (ob (dBin .eql (proj 0 x0) (.int .i64 14)) fun d14 =>
              oif d14
               (ob (dLen (proj 14 x0)) fun d15 =>
               ob (dBin .add d15 (.int .i64 1)) fun d16 =>
               og (isCell d16) <|
               ob (dLen (proj 14 x0)) fun d17 =>
               ob (dBin .gtr d17 (.int .i64 0)) fun d18 =>
               some (.tup [(.agg [(.bool false), (.bool false), (.bool false), (.bool false), (.bool false), (.bool false), (.bool false), (.bool false), d16]), d18]))
               (ob (dBin .eql (proj 0 x0) (.int .i64 15)) fun d19 =>
               oif d19
                (some (.tup [(.agg [(.bool false), (.bool false), (.bool false), (.bool false), (.bool false), (.bool true), (.bool false), (.bool true), (.int .i64 1)]), (.bool true)]))
                (ob (dBin .eql (proj 0 x0) (.int .i64 16)) fun d20 =>
                oif d20
                 (some (.tup [(.agg [(.bool false), (.bool false), (.bool false), (.bool false), (.bool true), (.bool false), (.bool false), (.bool false), (.int .i64 2)]), (.bool true)]))
                 (some (.tup [(.agg [(.bool false), (.bool false), (.bool false), (.bool false), (.bool false), (.bool false), (.bool false), (.bool false), (.int .i64 0)]), (.bool false)])))))))))))))))))) := evP_of [] (by kernel_rfl)
theorem call_tree_shapeOf (x0 : DV) {d : DV} (h : P_tree_shapeOf (run cfg) x0 = some d) : (run cfg).p F_tree_shapeOf [x0] = some d := callE Tryz.func142 (by kernel_rfl) (by kernel_rfl) (by kernel_rfl) h
noncomputable def P_tree_none (R : Orc) (x0 : DV) : Option DV := eP Tryz.f143 fl_tree_none R [] (initSt Tryz.f143 [(x0, .val)] [])
theorem eq_tree_none (R : Orc) (x0 : DV) : P_tree_none R x0 =
 (og (isAggN 3 x0) <|
 ob (dBin .eql (proj 0 x0) (.int .i64 0)) fun d1 =>
 ogd d1
  (ob (dBin .eql (proj 1 x0) (.int .i64 0)) fun d2 =>
  ogd d2
   (ob (dLen (proj 2 x0)) fun d3 =>
   ob (dBin .eql d3 (.int .i64 0)) fun d4 =>
   some d4)
   (some (.bool false))
   none)
  (some (.bool false))
  none) := evP_of [] (by kernel_rfl)
theorem call_tree_none (x0 : DV) {d : DV} (h : P_tree_none (run cfg) x0 = some d) : (run cfg).p F_tree_none [x0] = some d := callE Tryz.func143 (by kernel_rfl) (by kernel_rfl) (by kernel_rfl) h
noncomputable def P_tree_closed (R : Orc) (x0 : DV) : Option DV := eP Tryz.f144 fl_tree_closed R [] (initSt Tryz.f144 [(x0, .val)] [])
theorem eq_tree_closed (R : Orc) (x0 : DV) : P_tree_closed R x0 =
 (og (isAggN 3 x0) <|
 ob (R.p F_typ_Check [(ag3 x0)]) fun d1 =>
 ob (dBin .eql d1 (.int .i64 0)) fun d2 =>
 ogd d2
  (ob (R.p F_typ_Closed [(ag3 x0)]) fun d3 =>
  some d3)
  (some (.bool false))
  none) := evP_of [] (by kernel_rfl)
theorem call_tree_closed (x0 : DV) {d : DV} (h : P_tree_closed (run cfg) x0 = some d) : (run cfg).p F_tree_closed [x0] = some d := callE Tryz.func144 (by kernel_rfl) (by kernel_rfl) (by kernel_rfl) h
noncomputable def code_tree_CheckPat : Code := Tryz.f145.body.getD .skip
noncomputable def P_tree_CheckPat (R : Orc) (x0 : DV) : Option DV := eP Tryz.f145 fl_tree_CheckPat R [] (initSt Tryz.f145 [(x0, .val)] [])
noncomputable def P_tree_CheckPat_r0 (R : Orc) (t0 t6 : DV) (sg : List SObj) : Option DV := eP Tryz.f145 fl_tree_CheckPat R [true, true, false, true, false] (mst 32 [(0, t0), (4, (.tup [])), (6, t6), (8, (.tup [])), (9, (.tup [])), (10, (.tup [])), (11, (.tup [])), (12, (.tup [])), (13, (.tup [])), (14, (.tup [])), (15, (.tup [])), (16, (.tup [])), (17, (.tup [])), (18, (.tup [])), (19, (.tup [])), (20, (.tup [])), (21, (.tup [])), (22, (.tup [])), (23, (.tup [])), (24, (.tup [])), (25, (.tup [])), (26, (.tup [])), (27, (.tup [])), (28, (.tup [])), (29, (.tup [])), (30, (.tup [])), (31, (.tup []))] [(1, (.ptr 0 0)), (2, (.ptr 1 0)), (3, (.ptr 3 0)), (5, (.map 2)), (7, (.fn 194 [(4, 0)]))] [] sg)
noncomputable def rcode_tree_CheckPat_r0 : Code := match (sub [true, true, false, true, false] code_tree_CheckPat []).1 with
 | .rangeFunc _ _ a b => .seq a b
 | c => c
noncomputable def X_tree_CheckPat_r0 (R : Orc) (t0 t6 : DV) (o : Out) (sg : List SObj) : Option DV := konP cfg R fl_tree_CheckPat (retP cfg.P Tryz.f145) [true, true, false, true, false] code_tree_CheckPat o (outerSt ⟨spread .undef 32 0 [(0, t0), (4, (.tup [])), (6, t6), (8, (.tup [])), (9, (.tup [])), (10, (.tup [])), (11, (.tup [])), (12, (.tup [])), (13, (.tup [])), (14, (.tup [])), (15, (.tup [])), (16, (.tup [])), (17, (.tup [])), (18, (.tup [])), (19, (.tup [])), (20, (.tup [])), (21, (.tup [])), (22, (.tup [])), (23, (.tup [])), (24, (.tup [])), (25, (.tup [])), (26, (.tup [])), (27, (.tup [])), (28, (.tup [])), (29, (.tup [])), (30, (.tup [])), (31, (.tup []))], spread .val 32 0 [(1, (.ptr 0 0)), (2, (.ptr 1 0)), (3, (.ptr 3 0)), (5, (.map 2)), (7, (.fn 194 [(4, 0)]))], spread none 32 0 [], []⟩ sg)
noncomputable def B_tree_CheckPat_r0 (R : Orc) (t0 t6 : DV) (I : List SObj → Option DV) (x : DV) (sg : List SObj) : Option DV := evP cfg R fl_tree_CheckPat (kr I (X_tree_CheckPat_r0 R t0 t6)) [] rcode_tree_CheckPat_r0 (mst 32 [(8, x)] [(2, (.ptr 1 0)), (3, (.ptr 3 0))] [] sg)
noncomputable def I_tree_CheckPat_r0 (R : Orc) (t0 t6 : DV) : List DV → List SObj → Option DV := foldIt (fun x I sg => B_tree_CheckPat_r0 R t0 t6 I x sg) (X_tree_CheckPat_r0 R t0 t6 .normal)
noncomputable def P_tree_CheckPat_6 (R : Orc) (t0 t6 : DV) (I : List SObj → Option DV) (b4 : DV) (sg : List SObj) : Option DV := evP cfg R fl_tree_CheckPat (kr I (X_tree_CheckPat_r0 R t0 t6)) [true, false, true] rcode_tree_CheckPat_r0 (mst 32 [] [(3, (.ptr 3 0)), (4, (.loc 4 0))] [(4, some (bxs b4 0 7))] sg)
theorem eq_tree_CheckPat (R : Orc) (x0 : DV) : P_tree_CheckPat R x0 =
 (og (isAggN 7 x0) <|
 P_tree_CheckPat_r0 R x0 (ag7 x0) [SObj.box [((proj 0 x0), .val), ((proj 1 x0), .val), ((proj 2 x0), .val), ((proj 3 x0), .val), ((proj 4 x0), .val), ((proj 5 x0), .val), ((proj 6 x0), .val)], SObj.box [((.int .i64 0), .val)], .map true [], SObj.box [(.undef, (.map 2))], SObj.box [((proj 0 x0), .val), ((proj 1 x0), .val), ((proj 2 x0), .val), ((proj 3 x0), .val), ((proj 4 x0), .val), ((proj 5 x0), .val), ((proj 6 x0), .val)]]) := evP_of [6] (by kernel_rfl)
theorem eq_tree_CheckPat_r0 (R : Orc) (t0 t6 : DV) (sg : List SObj) : P_tree_CheckPat_r0 R t0 t6 sg =
 ob (sgBox sg 4) fun cs => ob (allDat cs) fun cd => ob (flatD 7 6 cd) fun ds => I_tree_CheckPat_r0 R t0 t6 ds (sg.set 4 (.arr 1 [])) :=
 (rangeP2 (t := 7) (f := 194) (i := 4) (q := 8) (it := flatD 7 6) (by kernel_rfl) (by kernel_rfl) (by kernel_rfl) (by kernel_rfl)).trans (by kernel_rfl)
theorem I_tree_CheckPat_r0_nil (R : Orc) (t0 t6 : DV) (sg : List SObj) : I_tree_CheckPat_r0 R t0 t6 [] sg = X_tree_CheckPat_r0 R t0 t6 .normal sg := rfl
theorem I_tree_CheckPat_r0_cons (R : Orc) (t0 t6 x : DV) (ds : List DV) (sg : List SObj) : I_tree_CheckPat_r0 R t0 t6 (x :: ds) sg = B_tree_CheckPat_r0 R t0 t6 (I_tree_CheckPat_r0 R t0 t6 ds) x sg := rfl
theorem eq_B_tree_CheckPat_r0 (R : Orc) (t0 t6 : DV) (I : List SObj → Option DV) (x : DV) (sg : List SObj) : B_tree_CheckPat_r0 R t0 t6 I x sg =
 (og (isAggN 7 x) <|
 ob (R.p F_tree_onePat [(ag7 x)]) fun d1 =>
 ob (dUn .not d1) fun d2 =>
 ogd d2
  (ob (sgBox sg 1) fun c3 =>
  ob (c3[0]?) fun u4 =>
  X_tree_CheckPat_r0 R t0 t6 .ret (sg.set 1 (SObj.box (c3.set 0 ((.int .i64 1), .val)))))
  (ob (dBin .eql (proj 0 x) (.int .i64 2)) fun d5 =>
  ogd d5
   (ob (sgBox sg 3) fun c6 =>
   ob (cellMap c6 0) fun i7 =>
   og (isKey true (proj 3 x) && true) <|
   ob (sgMap sg i7) fun m8 =>
   og (m8.1 == true) <|
   ob (dBin .gtr ((mGet m8.2 (proj 3 x)).getD (.int .i64 0)) (.int .i64 0)) fun d9 =>
   oif d9
    (ob (sgBox sg 1) fun c10 =>
    ob (c10[0]?) fun u11 =>
    X_tree_CheckPat_r0 R t0 t6 .ret (sg.set 1 (SObj.box (c10.set 0 ((.int .i64 1), .val)))))
    (P_tree_CheckPat_6 R t0 t6 I x sg))
   (P_tree_CheckPat_6 R t0 t6 I x sg)
   none)
  none) := evP_of [6] (by kernel_rfl)
theorem eq_X_tree_CheckPat_r0_normal (R : Orc) (t0 t6 : DV) (sg : List SObj) : X_tree_CheckPat_r0 R t0 t6 .normal sg =
 (ob (sgBox sg 1) fun c1 =>
 ob (c1[0]?) fun u2 =>
 ret1 (ob (sgBox (sg.set 1 (SObj.box (c1.set 0 ((.int .i64 0), .val)))) 1) fun c => oneCell (sg.set 1 (SObj.box (c1.set 0 ((.int .i64 0), .val)))) c)) := konP_of [6] (by kernel_rfl)
theorem eq_X_tree_CheckPat_r0_ret (R : Orc) (t0 t6 : DV) (sg : List SObj) : X_tree_CheckPat_r0 R t0 t6 .ret sg =
 (ret1 (ob (sgBox sg 1) fun c => oneCell sg c)) := konP_of [6] (by kernel_rfl)
theorem eq_tree_CheckPat_6 (R : Orc) (t0 t6 : DV) (I : List SObj → Option DV) (b4 : DV) (sg : List SObj) : P_tree_CheckPat_6 R t0 t6 I b4 sg =
 (ob (dBin .eql (proj 0 b4) (.int .i64 2)) fun d1 =>
 oif d1
  (ob (sgBox sg 3) fun c2 =>
  ob (cellMap c2 0) fun i3 =>
  og (isKey true (proj 3 b4) && true) <|
  ob (sgMap sg i3) fun m4 =>
  og (m4.1 == true) <|
  ob (dBin .add ((mGet m4.2 (proj 3 b4)).getD (.int .i64 0)) (.int .i64 1)) fun d5 =>
  og (isKey true (proj 3 b4) && true && true) <|
  ob (sgMap sg i3) fun m6 =>
  og (m6.1 == true) <|
  I (sg.set i3 (.map true (mSet m6.2 (proj 3 b4) d5))))
  (I sg)) := evP_of [6] (by kernel_rfl)
theorem call_tree_CheckPat (x0 : DV) {d : DV} (h : P_tree_CheckPat (run cfg) x0 = some d) : (run cfg).p F_tree_CheckPat [x0] = some d := callE Tryz.func145 (by kernel_rfl) (by kernel_rfl) (by kernel_rfl) h
noncomputable def P_slices_Contains__string_string (R : Orc) (x0 x1 : DV) : Option DV := eP Tryz.f146 fl_slices_Contains__string_string R [] (initSt Tryz.f146 [(x0, .val), (x1, .val)] [])
theorem eq_slices_Contains__string_string (R : Orc) (x0 x1 : DV) : P_slices_Contains__string_string R x0 x1 =
 (ob (R.p F_slices_Index__string_string [x0, x1]) fun d1 =>
 ob (dBin .geq d1 (.int .i64 0)) fun d2 =>
 some d2) := evP_of [] (by kernel_rfl)
theorem call_slices_Contains__string_string (x0 x1 : DV) {d : DV} (h : P_slices_Contains__string_string (run cfg) x0 x1 = some d) : (run cfg).p F_slices_Contains__string_string [x0, x1] = some d := callE Tryz.func146 (by kernel_rfl) (by kernel_rfl) (by kernel_rfl) h
end Go.Su

/-
 Equations of the program's functions: by program.
-/
namespace Go.Su
open Go.Proofs
set_option linter.unusedVariables false
noncomputable def code_erase_patNames : Code := Tryz.f147.body.getD .skip
noncomputable def P_erase_patNames (R : Orc) (x0 x1 : DV) (sg : List SObj) : Option (List DV × List SObj) := evP cfg R fl_erase_patNames (retR cfg.P Tryz.f147 sig_erase_patNames) [] code_erase_patNames (initSt Tryz.f147 [(x0, .val), (x1, .own)] sg)
noncomputable def P_erase_patNames_4h (R : Orc) (t1 t16 t17 t18 : DV) (sg : List SObj) : Option (List DV × List SObj) := headP cfg R fl_erase_patNames (retR cfg.P Tryz.f147 sig_erase_patNames) [true, true, false, true, false] code_erase_patNames (mst 27 [(1, t1), (16, t16), (17, t17), (18, t18)] [(1, .own)] [] sg)
theorem eq_erase_patNames (R : Orc) (x0 x1 : DV) (sg : List SObj) : P_erase_patNames R x0 x1 sg =
 (og (isAggN 7 x0) <|
 ob (dBin .eql (proj 0 x0) (.int .i64 2)) fun d1 =>
 oif d1
  (og (isCell (proj 3 x0)) <|
  ob (dApp 1 x1 (.list 1 [(proj 3 x0)])) fun d2 =>
  ob (dLen (proj 6 x0)) fun d3 =>
  P_erase_patNames_4h R d2 (proj 6 x0) d3 (.int .i64 0) sg)
  (ob (dLen (proj 6 x0)) fun d4 =>
  P_erase_patNames_4h R x1 (proj 6 x0) d4 (.int .i64 0) sg)) := evP_of [] (by kernel_rfl)
theorem eq_erase_patNames_4h (R : Orc) (t1 t16 t17 t18 : DV) (sg : List SObj) : P_erase_patNames_4h R t1 t16 t17 t18 sg =
 (ob (dBin .lss t18 t17) fun d1 =>
 oif d1
  (ob (dIdx 7 t16 t18) fun d2 =>
  ob (R.r F_erase_patNames [((ag7 d2), .val), (t1, .own)] sg) fun q3 =>
  ob (dBin .add t18 (.int .i64 1)) fun d4 =>
  P_erase_patNames_4h R (q3.1.getD 0 .undef) t16 t17 d4 q3.2)
  (some ([t1], sg))) := headP_of [] (by kernel_rfl)
theorem fix_erase_patNames (x0 x1 : DV) (sg : List SObj) : (run cfg).r F_erase_patNames [(x0, .val), (x1, .own)] sg = P_erase_patNames (run cfg) x0 x1 sg :=
 (fix_raw (C := cfg) (f := F_erase_patNames) (s := sig_erase_patNames) (fn := Tryz.f147) (c := code_erase_patNames) (by kernel_rfl) Tryz.func147 (by kernel_rfl)).trans (by kernel_rfl)
theorem call_erase_patNames (x0 x1 : DV) (sg : List SObj) {q : List DV × List SObj} (h : P_erase_patNames (run cfg) x0 x1 sg = some q) : (run cfg).r F_erase_patNames [(x0, .val), (x1, .own)] sg = some q := (fix_erase_patNames x0 x1 sg).trans h
noncomputable def P_r01_digit (R : Orc) (x0 : DV) : Option DV := eP Tryz.f148 fl_r01_digit R [] (initSt Tryz.f148 [(x0, .val)] [])
theorem eq_r01_digit (R : Orc) (x0 : DV) : P_r01_digit R x0 =
 (ob (dBin .geq x0 (.int .u8 48)) fun d1 =>
 ogd d1
  (ob (dBin .leq x0 (.int .u8 57)) fun d2 =>
  some d2)
  (some (.bool false))
  none) := evP_of [] (by kernel_rfl)
theorem call_r01_digit (x0 : DV) {d : DV} (h : P_r01_digit (run cfg) x0 = some d) : (run cfg).p F_r01_digit [x0] = some d := callE Tryz.func148 (by kernel_rfl) (by kernel_rfl) (by kernel_rfl) h
noncomputable def code_r05_names : Code := Tryz.f149.body.getD .skip
noncomputable def P_r05_names (R : Orc) (x0 x1 : DV) (sg : List SObj) : Option (List DV × List SObj) := evP cfg R fl_r05_names (retR cfg.P Tryz.f149 sig_r05_names) [] code_r05_names (initSt Tryz.f149 [(x0, .val), (x1, .own)] sg)
noncomputable def P_r05_names_4h (R : Orc) (t1 t5 b2 : DV) (sg : List SObj) : Option (List DV × List SObj) := headP cfg R fl_r05_names (retR cfg.P Tryz.f149 sig_r05_names) [true, true, false, true, false] code_r05_names (mst 29 [(1, t1), (5, t5)] [(1, .own), (2, (.loc 2 0))] [(2, some (bxs b2 0 7))] sg)
theorem eq_r05_names (R : Orc) (x0 x1 : DV) (sg : List SObj) : P_r05_names R x0 x1 sg =
 (og (isAggN 7 x0) <|
 ob (dBin .eql (proj 0 x0) (.int .i64 2)) fun d1 =>
 oif d1
  (og (isCell (proj 3 x0)) <|
  ob (dApp 1 x1 (.list 1 [(proj 3 x0)])) fun d2 =>
  P_r05_names_4h R d2 (.int .i64 0) x0 sg)
  (P_r05_names_4h R x1 (.int .i64 0) x0 sg)) := evP_of [] (by kernel_rfl)
theorem eq_r05_names_4h (R : Orc) (t1 t5 b2 : DV) (sg : List SObj) : P_r05_names_4h R t1 t5 b2 sg =
 (ob (dLen (proj 6 b2)) fun d1 =>
 ob (dBin .lss t5 d1) fun d2 =>
 oif d2
  (ob (dIdx 7 (proj 6 b2) t5) fun d3 =>
  ob (R.r F_r05_names [((ag7 d3), .val), (t1, .own)] sg) fun q4 =>
  ob (dBin .add t5 (.int .i64 1)) fun d5 =>
  P_r05_names_4h R (q4.1.getD 0 .undef) d5 b2 q4.2)
  (some ([t1], sg))) := headP_of [] (by kernel_rfl)
theorem fix_r05_names (x0 x1 : DV) (sg : List SObj) : (run cfg).r F_r05_names [(x0, .val), (x1, .own)] sg = P_r05_names (run cfg) x0 x1 sg :=
 (fix_raw (C := cfg) (f := F_r05_names) (s := sig_r05_names) (fn := Tryz.f149) (c := code_r05_names) (by kernel_rfl) Tryz.func149 (by kernel_rfl)).trans (by kernel_rfl)
theorem call_r05_names (x0 x1 : DV) (sg : List SObj) {q : List DV × List SObj} (h : P_r05_names (run cfg) x0 x1 sg = some q) : (run cfg).r F_r05_names [(x0, .val), (x1, .own)] sg = some q := (fix_r05_names x0 x1 sg).trans h
noncomputable def code_tree_scope_with : Code := Tryz.f167.body.getD .skip
noncomputable def P_tree_scope_with (R : Orc) (x0 : Nat) (x1 x2 : DV) (sg : List SObj) : Option (List DV × List SObj) := evP cfg R fl_tree_scope_with (retR cfg.P Tryz.f167 sig_tree_scope_with) [] code_tree_scope_with (initSt Tryz.f167 [(.undef, (.ptr x0 0)), (x1, .val), (x2, .val)] sg)
noncomputable def P_tree_scope_with_2h (R : Orc) (t0i : Nat) (t2 t10 t11 t12 b4 : DV) (sg : List SObj) : Option (List DV × List SObj) := headP cfg R fl_tree_scope_with (retR cfg.P Tryz.f167 sig_tree_scope_with) [true, false, true, false] code_tree_scope_with (mst 41 [(2, t2), (10, t10), (11, t11), (12, t12)] [(0, (.ptr t0i 0)), (4, (.loc 4 0))] [(4, some (bxs b4 0 16))] sg)
noncomputable def P_tree_scope_with_8h (R : Orc) (t0i : Nat) (t27 t28 t29 : DV) (sg : List SObj) : Option (List DV × List SObj) := headP cfg R fl_tree_scope_with (retR cfg.P Tryz.f167 sig_tree_scope_with) [true, true, true, true, false] code_tree_scope_with (mst 41 [(27, t27), (28, t28), (29, t29)] [(0, (.ptr t0i 0))] [] sg)
theorem eq_tree_scope_with (R : Orc) (x0 : Nat) (x1 x2 : DV) (sg : List SObj) : P_tree_scope_with R x0 x1 x2 sg =
 (og (isAggN 16 x1) <|
 ob (dLen x2) fun d1 =>
 P_tree_scope_with_2h R x0 x2 x2 d1 (.int .i64 0) x1 sg) := evP_of [] (by kernel_rfl)
theorem eq_tree_scope_with_2h (R : Orc) (t0i : Nat) (t2 t10 t11 t12 b4 : DV) (sg : List SObj) : P_tree_scope_with_2h R t0i t2 t10 t11 t12 b4 sg =
 (ob (dBin .lss t12 t11) fun d1 =>
 oif d1
  (ob (dIdx 1 t10 t12) fun d2 =>
  og (isLeaf d2) <|
  ob (sgBox sg t0i) fun c3 =>
  ob (cellMap c3 0) fun i4 =>
  og (isKey true d2 && true) <|
  ob (sgMap sg i4) fun m5 =>
  og (m5.1 == true) <|
  ob (dBin .add ((mGet m5.2 d2).getD (.int .i64 0)) (.int .i64 1)) fun d6 =>
  og (isKey true d2 && true && true) <|
  ob (sgMap sg i4) fun m7 =>
  og (m7.1 == true) <|
  ob (dBin .add t12 (.int .i64 1)) fun d8 =>
  P_tree_scope_with_2h R t0i t2 t10 t11 d8 b4 (sg.set i4 (.map true (mSet m7.2 d2 d6))))
  (ob (R.r F_tree_scope_look [(.undef, (.ptr t0i 0)), ((ag16 b4), .val)] sg) fun q9 =>
  ob (dLen t2) fun d10 =>
  P_tree_scope_with_8h R t0i t2 d10 (.int .i64 0) q9.2)) := headP_of [] (by kernel_rfl)
theorem eq_tree_scope_with_8h (R : Orc) (t0i : Nat) (t27 t28 t29 : DV) (sg : List SObj) : P_tree_scope_with_8h R t0i t27 t28 t29 sg =
 (ob (dBin .lss t29 t28) fun d1 =>
 oif d1
  (ob (dIdx 1 t27 t29) fun d2 =>
  og (isLeaf d2) <|
  ob (sgBox sg t0i) fun c3 =>
  ob (cellMap c3 0) fun i4 =>
  og (isKey true d2 && true) <|
  ob (sgMap sg i4) fun m5 =>
  og (m5.1 == true) <|
  ob (dBin .sub ((mGet m5.2 d2).getD (.int .i64 0)) (.int .i64 1)) fun d6 =>
  og (isKey true d2 && true && true) <|
  ob (sgMap sg i4) fun m7 =>
  og (m7.1 == true) <|
  ob (dBin .add t29 (.int .i64 1)) fun d8 =>
  P_tree_scope_with_8h R t0i t27 t28 d8 (sg.set i4 (.map true (mSet m7.2 d2 d6))))
  (some ([], sg))) := headP_of [] (by kernel_rfl)
theorem fix_tree_scope_with (x0 : Nat) (x1 x2 : DV) (sg : List SObj) : (run cfg).r F_tree_scope_with [(.undef, (.ptr x0 0)), (x1, .val), (x2, .val)] sg = P_tree_scope_with (run cfg) x0 x1 x2 sg :=
 (fix_raw (C := cfg) (f := F_tree_scope_with) (s := sig_tree_scope_with) (fn := Tryz.f167) (c := code_tree_scope_with) (by kernel_rfl) Tryz.func167 (by kernel_rfl)).trans (by kernel_rfl)
theorem call_tree_scope_with (x0 : Nat) (x1 x2 : DV) (sg : List SObj) {q : List DV × List SObj} (h : P_tree_scope_with (run cfg) x0 x1 x2 sg = some q) : (run cfg).r F_tree_scope_with [(.undef, (.ptr x0 0)), (x1, .val), (x2, .val)] sg = some q := (fix_tree_scope_with x0 x1 x2 sg).trans h
noncomputable def P_typ_Check (R : Orc) (x0 : DV) : Option DV := eP Tryz.f169 fl_typ_Check R [] (initSt Tryz.f169 [(x0, .val)] [])
theorem eq_typ_Check (R : Orc) (x0 : DV) : P_typ_Check R x0 =
 (og (isAggN 3 x0) <|
 ob (R.p F_typ_right [(ag3 x0)]) fun d1 =>
 ob (dUn .not d1) fun d2 =>
 oif d2
  (some (.int .i64 1))
  (some (.int .i64 0))) := evP_of [] (by kernel_rfl)
theorem call_typ_Check (x0 : DV) {d : DV} (h : P_typ_Check (run cfg) x0 = some d) : (run cfg).p F_typ_Check [x0] = some d := callE Tryz.func169 (by kernel_rfl) (by kernel_rfl) (by kernel_rfl) h
noncomputable def P_typ_Closed (R : Orc) (x0 : DV) : Option DV := eP Tryz.f170 fl_typ_Closed R [] (initSt Tryz.f170 [(x0, .val)] [])
theorem eq_typ_Closed (R : Orc) (x0 : DV) : P_typ_Closed R x0 =
 (og (isAggN 3 x0) <|
 ob (R.p F_typ_without [(ag3 x0), (.int .i64 6)]) fun d1 =>
 some d1) := evP_of [] (by kernel_rfl)
theorem call_typ_Closed (x0 : DV) {d : DV} (h : P_typ_Closed (run cfg) x0 = some d) : (run cfg).p F_typ_Closed [x0] = some d := callE Tryz.func170 (by kernel_rfl) (by kernel_rfl) (by kernel_rfl) h
noncomputable def P_tree_onePat (R : Orc) (x0 : DV) : Option DV := eP Tryz.f171 fl_tree_onePat R [] (initSt Tryz.f171 [(x0, .val)] [])
noncomputable def P_tree_onePat_24 (R : Orc) (t4 b1 b3_0 b3_1 b3_2 b3_3 b3_4 b3_5 b3_6 : DV) : Option DV := eP Tryz.f171 fl_tree_onePat R [true, true, true] (mst 83 [(4, t4)] [(1, (.loc 1 0)), (3, (.loc 3 0))] [(1, some (bxs b1 0 7)), (3, some [(b3_0, .val), (b3_1, .val), (b3_2, .val), (b3_3, .val), (b3_4, .val), (b3_5, .val), (b3_6, .val)])] [])
set_option maxRecDepth 100000 in
theorem eq_tree_onePat (R : Orc) (x0 : DV) : P_tree_onePat R x0 =
 (og (isAggN 7 x0) <|
 og (isCell (proj 0 x0)) <|
 og (isCell (proj 6 x0)) <|
 ob (dBin .eql (proj 0 x0) (.int .i64 1)) fun d1 =>
 oif d1
  (P_tree_onePat_24 R (.int .i64 0) x0 (proj 0 x0) (proj 1 x0) (proj 2 x0) (.str ⟨#[]⟩) (.int .i64 0) (.str ⟨#[]⟩) (proj 6 x0))
  (ob (dBin .eql (proj 0 x0) (.int .i64 6)) fun d2 =>
  oif d2
   (P_tree_onePat_24 R (.int .i64 0) x0 (proj 0 x0) (proj 1 x0) (proj 2 x0) (.str ⟨#[]⟩) (.int .i64 0) (.str ⟨#[]⟩) (proj 6 x0))
   (ob (dBin .eql (proj 0 x0) (.int .i64 8)) fun d3 =>
   oif d3
    (P_tree_onePat_24 R (.int .i64 0) x0 (proj 0 x0) (proj 1 x0) (proj 2 x0) (.str ⟨#[]⟩) (.int .i64 0) (.str ⟨#[]⟩) (proj 6 x0))
    (ob (dBin .eql (proj 0 x0) (.int .i64 2)) fun d4 =>
    oif d4
     (og (isCell (proj 3 x0)) <|
     ob (R.p F_word_Name [(proj 3 x0)]) fun d5 =>
     ob (dUn .not d5) fun d6 =>
     oif d6
      (some (.bool false))
      (P_tree_onePat_24 R (.int .i64 0) x0 (proj 0 x0) (proj 1 x0) (proj 2 x0) (proj 3 x0) (.int .i64 0) (.str ⟨#[]⟩) (proj 6 x0)))
     (ob (dBin .eql (proj 0 x0) (.int .i64 3)) fun d7 =>
     oif d7
      (og (isCell (proj 4 x0)) <|
      P_tree_onePat_24 R (.int .i64 0) x0 (proj 0 x0) (proj 1 x0) (proj 2 x0) (.str ⟨#[]⟩) (proj 4 x0) (.str ⟨#[]⟩) (proj 6 x0))
      (ob (dBin .eql (proj 0 x0) (.int .i64 4)) fun d8 =>
      oif d8
       (og (isCell (proj 4 x0)) <|
       ob (dBin .neq (proj 4 x0) (.int .i64 0)) fun d9 =>
       ogd d9
        (ob (dBin .neq (proj 4 x0) (.int .i64 1)) fun d10 =>
        oif d10
         (some (.bool false))
         (P_tree_onePat_24 R (.int .i64 0) x0 (proj 0 x0) (proj 1 x0) (proj 2 x0) (.str ⟨#[]⟩) (proj 4 x0) (.str ⟨#[]⟩) (proj 6 x0)))
        (P_tree_onePat_24 R (.int .i64 0) x0 (proj 0 x0) (proj 1 x0) (proj 2 x0) (.str ⟨#[]⟩) (proj 4 x0) (.str ⟨#[]⟩) (proj 6 x0))
        none)
       (ob (dBin .eql (proj 0 x0) (.int .i64 5)) fun d11 =>
       oif d11
        (og (isCell (proj 5 x0)) <|
        ob (dLenS (proj 5 x0)) fun d12 =>
        ob (dBin .gtr d12 (.int .i64 200)) fun d13 =>
        oif d13
         (some (.bool false))
         (P_tree_onePat_24 R (.int .i64 0) x0 (proj 0 x0) (proj 1 x0) (proj 2 x0) (.str ⟨#[]⟩) (.int .i64 0) (proj 5 x0) (proj 6 x0)))
        (ob (dBin .eql (proj 0 x0) (.int .i64 7)) fun d14 =>
        oif d14
         (P_tree_onePat_24 R (.int .i64 2) x0 (proj 0 x0) (proj 1 x0) (proj 2 x0) (.str ⟨#[]⟩) (.int .i64 0) (.str ⟨#[]⟩) (proj 6 x0))
         (ob (dBin .eql (proj 0 x0) (.int .i64 9)) fun d15 =>
         oif d15
          (P_tree_onePat_24 R (.int .i64 2) x0 (proj 0 x0) (proj 1 x0) (proj 2 x0) (.str ⟨#[]⟩) (.int .i64 0) (.str ⟨#[]⟩) (proj 6 x0))
          (some (.bool false))))))))))) := evP_of [24] (by kernel_rfl)
set_option maxRecDepth 100000 in
theorem eq_tree_onePat_24 (R : Orc) (t4 b1 b3_0 b3_1 b3_2 b3_3 b3_4 b3_5 b3_6 : DV) : P_tree_onePat_24 R t4 b1 b3_0 b3_1 b3_2 b3_3 b3_4 b3_5 b3_6 =
 (ob (dLen (proj 6 b1)) fun d1 =>
 ob (dBin .eql d1 t4) fun d2 =>
 ogd d2
  (ob (dBin .eql b3_3 (proj 3 b1)) fun d3 =>
  ogd d3
   (ob (dBin .eql b3_4 (proj 4 b1)) fun d4 =>
   ogd d4
    (ob (dBin .eql b3_5 (proj 5 b1)) fun d5 =>
    some d5)
    (some (.bool false))
    none)
   (some (.bool false))
   none)
  (some (.bool false))
  none) := evP_of [24] (by kernel_rfl)
theorem call_tree_onePat (x0 : DV) {d : DV} (h : P_tree_onePat (run cfg) x0 = some d) : (run cfg).p F_tree_onePat [x0] = some d := callE Tryz.func171 (by kernel_rfl) (by kernel_rfl) (by kernel_rfl) h
noncomputable def P_slices_Index__string_string (R : Orc) (x0 x1 : DV) : Option DV := eP Tryz.f172 fl_slices_Index__string_string R [] (initSt Tryz.f172 [(x0, .val), (x1, .val)] [])
noncomputable def P_slices_Index__string_string_2h (R : Orc) (t0 t1 t7 t8 : DV) : Option DV := hP Tryz.f172 fl_slices_Index__string_string R [true, false, true, false] (mst 19 [(0, t0), (1, t1), (7, t7), (8, t8)] [] [] [])
theorem eq_slices_Index__string_string (R : Orc) (x0 x1 : DV) : P_slices_Index__string_string R x0 x1 =
 (ob (dLen x0) fun d1 =>
 P_slices_Index__string_string_2h R x0 x1 d1 (.int .i64 0)) := evP_of [] (by kernel_rfl)
theorem eq_slices_Index__string_string_2h (R : Orc) (t0 t1 t7 t8 : DV) : P_slices_Index__string_string_2h R t0 t1 t7 t8 =
 (ob (dBin .lss t8 t7) fun d1 =>
 oif d1
  (ob (dIdx 1 t0 t8) fun d2 =>
  og (isLeaf d2) <|
  ob (dBin .eql t1 d2) fun d3 =>
  oif d3
   (some t8)
   (ob (dBin .add t8 (.int .i64 1)) fun d4 =>
   P_slices_Index__string_string_2h R t0 t1 t7 d4))
  (some (.int .i64 (-1)))) := headP_of [] (by kernel_rfl)
theorem call_slices_Index__string_string (x0 x1 : DV) {d : DV} (h : P_slices_Index__string_string (run cfg) x0 x1 = some d) : (run cfg).p F_slices_Index__string_string [x0, x1] = some d := callE Tryz.func172 (by kernel_rfl) (by kernel_rfl) (by kernel_rfl) h
noncomputable def P_typ_right (R : Orc) (x0 : DV) : Option DV := eP Tryz.f196 fl_typ_right R [] (initSt Tryz.f196 [(x0, .val)] [])
noncomputable def P_typ_right_9h (R : Orc) (t33 t34 t35 : DV) : Option DV := hP Tryz.f196 fl_typ_right R [true, true, true, true, false, true, false] (mst 43 [(33, t33), (34, t34), (35, t35)] [] [] [])
theorem eq_typ_right (R : Orc) (x0 : DV) : P_typ_right R x0 =
 (og (isAggN 3 x0) <|
 ob (R.p F_typ_arity [(proj 0 x0)]) fun d1 =>
 ob (dBin .lss d1 (.int .i64 0)) fun d2 =>
 ogd d2
  (some (.bool false))
  (ob (dLen (proj 2 x0)) fun d3 =>
  ob (dBin .neq d3 d1) fun d4 =>
  oif d4
   (some (.bool false))
   (ob (dBin .eql (proj 0 x0) (.int .i64 6)) fun d5 =>
   oif d5
    (ob (dBin .geq (proj 1 x0) (.int .i64 0)) fun d6 =>
    ogd d6
     (ob (dBin .leq (proj 1 x0) (.int .i64 1048576)) fun d7 =>
     some d7)
     (some (.bool false))
     none)
    (ob (dBin .neq (proj 1 x0) (.int .i64 0)) fun d8 =>
    oif d8
     (some (.bool false))
     (ob (dLen (proj 2 x0)) fun d9 =>
     P_typ_right_9h R (proj 2 x0) d9 (.int .i64 0)))))
  none) := evP_of [] (by kernel_rfl)
theorem eq_typ_right_9h (R : Orc) (t33 t34 t35 : DV) : P_typ_right_9h R t33 t34 t35 =
 (ob (dBin .lss t35 t34) fun d1 =>
 oif d1
  (ob (dIdx 3 t33 t35) fun d2 =>
  ob (R.p F_typ_right [(ag3 d2)]) fun d3 =>
  ob (dUn .not d3) fun d4 =>
  oif d4
   (some (.bool false))
   (ob (dBin .add t35 (.int .i64 1)) fun d5 =>
   P_typ_right_9h R t33 t34 d5))
  (some (.bool true))) := headP_of [] (by kernel_rfl)
theorem call_typ_right (x0 : DV) {d : DV} (h : P_typ_right (run cfg) x0 = some d) : (run cfg).p F_typ_right [x0] = some d := callE Tryz.func196 (by kernel_rfl) (by kernel_rfl) (by kernel_rfl) h
noncomputable def P_typ_without (R : Orc) (x0 x1 : DV) : Option DV := eP Tryz.f197 fl_typ_without R [] (initSt Tryz.f197 [(x0, .val), (x1, .val)] [])
noncomputable def P_typ_without_4h (R : Orc) (t1 t12 t13 t14 : DV) : Option DV := hP Tryz.f197 fl_typ_without R [true, true, false, true, false] (mst 23 [(1, t1), (12, t12), (13, t13), (14, t14)] [] [] [])
theorem eq_typ_without (R : Orc) (x0 x1 : DV) : P_typ_without R x0 x1 =
 (og (isAggN 3 x0) <|
 ob (dBin .eql (proj 0 x0) x1) fun d1 =>
 oif d1
  (some (.bool false))
  (ob (dLen (proj 2 x0)) fun d2 =>
  P_typ_without_4h R x1 (proj 2 x0) d2 (.int .i64 0))) := evP_of [] (by kernel_rfl)
theorem eq_typ_without_4h (R : Orc) (t1 t12 t13 t14 : DV) : P_typ_without_4h R t1 t12 t13 t14 =
 (ob (dBin .lss t14 t13) fun d1 =>
 oif d1
  (ob (dIdx 3 t12 t14) fun d2 =>
  ob (R.p F_typ_without [(ag3 d2), t1]) fun d3 =>
  ob (dUn .not d3) fun d4 =>
  oif d4
   (some (.bool false))
   (ob (dBin .add t14 (.int .i64 1)) fun d5 =>
   P_typ_without_4h R t1 t12 t13 d5))
  (some (.bool true))) := headP_of [] (by kernel_rfl)
theorem call_typ_without (x0 x1 : DV) {d : DV} (h : P_typ_without (run cfg) x0 x1 = some d) : (run cfg).p F_typ_without [x0, x1] = some d := callE Tryz.func197 (by kernel_rfl) (by kernel_rfl) (by kernel_rfl) h
noncomputable def P_typ_arity (R : Orc) (x0 : DV) : Option DV := eP Tryz.f209 fl_typ_arity R [] (initSt Tryz.f209 [(x0, .val)] [])
theorem eq_typ_arity (R : Orc) (x0 : DV) : P_typ_arity R x0 =
 (ob (dBin .eql x0 (.int .i64 1)) fun d1 =>
 oif d1
  (some (.int .i64 0))
  (ob (dBin .eql x0 (.int .i64 2)) fun d2 =>
  oif d2
   (some (.int .i64 0))
   (ob (dBin .eql x0 (.int .i64 3)) fun d3 =>
   oif d3
    (some (.int .i64 0))
    (ob (dBin .eql x0 (.int .i64 4)) fun d4 =>
    oif d4
     (some (.int .i64 0))
     (ob (dBin .eql x0 (.int .i64 5)) fun d5 =>
     oif d5
      (some (.int .i64 0))
      (ob (dBin .eql x0 (.int .i64 6)) fun d6 =>
      oif d6
       (some (.int .i64 0))
       (ob (dBin .eql x0 (.int .i64 8)) fun d7 =>
       oif d7
        (some (.int .i64 1))
        (ob (dBin .eql x0 (.int .i64 7)) fun d8 =>
        oif d8
         (some (.int .i64 2))
         (ob (dBin .eql x0 (.int .i64 9)) fun d9 =>
         oif d9
          (some (.int .i64 2))
          (some (.int .i64 (-1)))))))))))) := evP_of [] (by kernel_rfl)
theorem call_typ_arity (x0 : DV) {d : DV} (h : P_typ_arity (run cfg) x0 = some d) : (run cfg).p F_typ_arity [x0] = some d := callE Tryz.func209 (by kernel_rfl) (by kernel_rfl) (by kernel_rfl) h
end Go.Su

/-
 All equations.
-/
namespace Go.Su
end Go.Su

/-
 The functions' specs that this claim needs.
-/
namespace Go.Su
set_option linter.unusedVariables false
set_option linter.unusedSimpArgs false
@[simp] theorem dEqA_two (a b c d : Int) (k : IntKind) : dEqA [.int, .int] (.agg [.int k a, .int k b]) (.agg [.int k c, .int k d]) = some (decide (a = c) && decide (b = d)) := by
  simp only [dEqA, dEqLeaves, dEqK, if_true, ob_some']
  by_cases h : a = c <;> by_cases h' : b = d <;> simp [h, h']
theorem Nm.agg (n : ByteArray) (t : Ty) (vs : List Int) : DV.agg [.str n, .int .i64 t.kind, .int .i64 t.n, .list 3 (t.kids.map Ty.enc), encInts vs] = Nm.enc ⟨n, t, vs⟩ := rfl
def kSg (sg : List SObj) (i : Nat) (e : Int) : List SObj := sg.set i (.box [(.int .i64 e, .val)])
def KIs (sg : List SObj) (i : Nat) (r : Option (List DV × List SObj)) : Res → Prop
 | .ok y => r = some ([y.enc], kSg sg i 0)
 | .error e => ∃ z : Ty, z.thin = true ∧ r = some ([z.enc], kSg sg i e)
theorem KIs.ok {sg : List SObj} {i : Nat} {r : Option (List DV × List SObj)} {y : Ty} (h : r = some ([y.enc], kSg sg i 0)) : KIs sg i r (.ok y) := h
def noTy : Ty := .mk 0 0 []
def zeroEx : Ex := .mk 0 0 0 nil8 nil8 0 nil8 0 noTy noTy [] []
theorem zeroEx_agg : DV.agg [.int .i64 0, .int .i64 0, .int .i64 0, .str ⟨#[]⟩, .str ⟨#[]⟩, .int .i64 0, .str ⟨#[]⟩, .int .i64 0, .int .i64 0, .int .i64 0, .list 3 [], .int .i64 0, .int .i64 0, .list 3 [], .list 7 [], .list 16 []] = zeroEx.enc := by
 rw [Ex.enc_eq]; rfl
def res0 (k : Int) : DV := .agg [.int .i64 k, .int .i64 0, .int .i64 0, .str ⟨#[]⟩, .int .i64 0, .int .i64 0, .int .i64 0, .bool false, .list 5 [], .list 9 [], .int .i64 0, .bool false, .int .i64 0, .int .i64 0, .int .i64 0]
theorem sp_erase_stuck : (run cfg).p F_erase_stuck [] = some (.tup [zeroEx.enc, res0 6]) := by
 refine call_erase_stuck ?_
 rw [eq_erase_stuck, zeroEx_agg]
 rfl
theorem exx (k : Ex) : (DV.agg [proj 0 k.enc, proj 1 k.enc, proj 2 k.enc, proj 3 k.enc, proj 4 k.enc, proj 5 k.enc, proj 6 k.enc, proj 7 k.enc, proj 8 k.enc, proj 9 k.enc, proj 10 k.enc, proj 11 k.enc, proj 12 k.enc, proj 13 k.enc, proj 14 k.enc, proj 15 k.enc]) = k.enc := by simp [Ex.eta, Ex.ag]
theorem dExt_0 (a b : DV) : dExt 0 (.tup [a, b]) = some a := rfl
theorem dExt_1 (a b : DV) : dExt 1 (.tup [a, b]) = some b := rfl
end Go.Su

/-
 What the program's functions on expressions without types give: operators, recursion, patterns.
-/
namespace Go.Su
set_option linter.unusedVariables false
set_option linter.unusedSimpArgs false
theorem noEx_zero : noEx = zeroEx := rfl
theorem num_agg (k lo hi n : Int) : DV.agg [.int .i64 k, .int .i64 lo, .int .i64 hi, .str ⟨#[]⟩, .str ⟨#[]⟩, .int .i64 n, .str ⟨#[]⟩, .int .i64 0, .int .i64 0, .int .i64 0, .list 3 [], .int .i64 0, .int .i64 0, .list 3 [], .list 7 [], .list 16 []] = (Ex.num k lo hi n).enc := by
 rw [Ex.enc_eq]; rfl
theorem noEx_agg : DV.agg [.int .i64 0, .int .i64 0, .int .i64 0, .str ⟨#[]⟩, .str ⟨#[]⟩, .int .i64 0, .str ⟨#[]⟩, .int .i64 0, .int .i64 0, .int .i64 0, .list 3 [], .int .i64 0, .int .i64 0, .list 3 [], .list 7 [], .list 16 []] = noEx.enc := zeroEx_agg
theorem r3_agg (k lo hi : Int) : DV.agg [.int .i64 k, .int .i64 0, .int .i64 0, .str ⟨#[]⟩, .int .i64 0, .int .i64 0, .int .i64 0, .bool false, .list 5 [], .list 9 [], .int .i64 0, .bool false, .int .i64 lo, .int .i64 hi, .int .i64 0] = (R3.mk k lo hi).enc := rfl
@[simp] theorem isAggN_R3 (r : R3) : isAggN 15 r.enc = true := rfl
theorem r3x (r : R3) : DV.agg [proj 0 r.enc, proj 1 r.enc, proj 2 r.enc, proj 3 r.enc, proj 4 r.enc, proj 5 r.enc, proj 6 r.enc, proj 7 r.enc, proj 8 r.enc, proj 9 r.enc, proj 10 r.enc, proj 11 r.enc, proj 12 r.enc, proj 13 r.enc, proj 14 r.enc] = r.enc := rfl
theorem r3_kind (r : R3) : proj 0 r.enc = .int .i64 r.kind := rfl
theorem sp_erase_stop : (run cfg).p F_erase_stuck [] = some (.tup [noEx.enc, R3.stuck.enc]) := by
 rw [noEx_zero]
 exact sp_erase_stuck
theorem sp_erase_operate (t a b : Ex) : (run cfg).p F_erase_operate [t.enc, a.enc, b.enc] = some (.tup [(t.opE a b).1.enc, (t.opE a b).2.enc]) := by
 have ok0 : DV.agg [.int .i64 0, .int .i64 0, .int .i64 0, .str ⟨#[]⟩, .int .i64 0, .int .i64 0, .int .i64 0, .bool false, .list 5 [], .list 9 [], .int .i64 0, .bool false, .int .i64 0, .int .i64 0, .int .i64 0] = R3.ok.enc := rfl
 have qu : ∀ x y : Int, y ≠ 0 → dBin .quo (.int .i64 x) (.int .i64 y) = some (.int .i64 (IntKind.i64.wrap (x.tdiv y))) := fun x y h => by
  show (if y = 0 then none else some (DV.int .i64 (IntKind.i64.wrap (x.tdiv y)))) = _
  rw [if_neg h]
 have mu : ∀ x y : Int, dBin .mul (.int .i64 x) (.int .i64 y) = some (.int .i64 (IntKind.i64.wrap (x * y))) := fun x y => rfl
 have main : ∀ w : Int, w = (if t.op = 7 then 4 else 2) → P_erase_operate_4 (run cfg) (.int .i64 w) t.enc a.enc b.enc = some (.tup [(t.opE a b).1.enc, (t.opE a b).2.enc]) := by
  intro w hw
  rw [eq_erase_operate_4]
  unfold Ex.opE
  rw [← hw]
  simp only [Ex.pj, dBin_neq, dBin_eql, dBin_lss, dBin_seql, ob_some', ogd_bool, oif_bool, sp_erase_stop, dExt_0, dExt_1, isAggN_Ex, isAggN_R3, og_true', r3x]
  by_cases ha : a.kind = w
  rotate_left
  ·simp [ha, Ex.eta, Ex.ag]
  by_cases hb : b.kind = w
  rotate_left
  ·simp [ha, hb, Ex.eta, Ex.ag]
  simp only [ha, hb, decide_true, Bool.not_true, Bool.false_eq_true, if_false, and_self, not_true]
  by_cases c1 : t.op = 1
  ·simp [c1, dBin_add, num_agg, ok0]
  by_cases c2 : t.op = 2
  ·simp [c2, dBin_sub, num_agg, ok0]
  by_cases c3 : t.op = 3
  ·simp [c3, mu, num_agg, ok0]
  by_cases c4 : t.op = 4
  ·by_cases z : b.n = 0
   ·simp [c4, z, noEx_agg, r3_agg]
   ·simp [c4, z, qu, num_agg, ok0]
  by_cases c5 : t.op = 5
  ·by_cases z : a.n < b.n <;> simp [c5, z, eq_erase_operate_27, num_agg, ok0]
  by_cases c6 : t.op = 6
  ·by_cases z : a.n = b.n <;> simp [c6, z, eq_erase_operate_27, num_agg, ok0]
  by_cases z : a.s = b.s <;> simp [c1, c2, c3, c4, c5, c6, z, eq_erase_operate_27, num_agg, ok0]
 refine call_erase_operate _ _ _ ?_
 rw [eq_erase_operate]
 simp only [isAggN_Ex, og_true', Ex.proj7, dBin_eql, ob_some', oif_bool]
 by_cases h7 : t.op = 7
 ·simp only [h7, decide_true, if_true]
  exact main 4 (by rw [if_pos h7])
 ·simp only [h7, decide_false, Bool.false_eq_true, if_false]
  exact main 2 (by rw [if_neg h7])
theorem sp_erase_rec (t : Ex) (hk : 0 < t.kids.length) : (run cfg).p F_erase_rec [t.enc] = some (t.recE (t.kid 0)).enc := by
 have d0 : dIdx 16 (.list 16 (t.kids.map Ex.enc)) (.int .i64 0) = some (t.kid 0).enc := by
  have h := Ex.kid_get hk
  have h2 : dIdx 16 (.list 16 (t.kids.map Ex.enc)) (.int .i64 0) = some t.kids[0].enc := dIdx_map hk
  rw [List.getElem?_eq_getElem hk, Option.some.injEq] at h
  rw [h2, h]
 have f9 : ∀ (s : ByteArray) (b : Ex), DV.agg [.int .i64 9, .int .i64 0, .int .i64 0, .str s, .str ⟨#[]⟩, .int .i64 0, .str ⟨#[]⟩, .int .i64 0, .int .i64 0, .int .i64 0, .list 3 [], .int .i64 0, .int .i64 0, .list 3 [], .list 7 [], .list 16 [b.enc]] = (Ex.mk 9 0 0 s nil8 0 nil8 0 (.mk 0 0 []) (.mk 0 0 []) [] [b]).enc := fun s b => by rw [Ex.enc_eq (Ex.mk _ _ _ _ _ _ _ _ _ _ _ _)]; rfl
 have f12 : ∀ (s u : ByteArray) (b : Ex), DV.agg [.int .i64 12, .int .i64 0, .int .i64 0, .str s, .str u, .int .i64 0, .str ⟨#[]⟩, .int .i64 0, .int .i64 0, .int .i64 0, .list 3 [], .int .i64 0, .int .i64 0, .list 3 [], .list 7 [], .list 16 [b.enc, b.enc]] = (Ex.mk 12 0 0 s u 0 nil8 0 (.mk 0 0 []) (.mk 0 0 []) [] [b, b]).enc := fun s u b => by rw [Ex.enc_eq (Ex.mk _ _ _ _ _ _ _ _ _ _ _ _)]; rfl
 refine call_erase_rec _ ?_
 rw [eq_erase_rec]
 unfold Ex.recE
 simp only [isAggN_Ex, og_true', Ex.proj15, Ex.proj3, Ex.proj4, d0, ob_some', dBin_sneq, oif_bool, isCell_str]
 have ex := exx (t.kid 0)
 by_cases e : t.name = t.arg
 ·simp only [e, decide_true, Bool.not_true, Bool.false_eq_true, if_false, if_true]
  rw [← f9]
  simp only [Ex.pj, Ex.eta, Ex.ag]
 ·simp only [e, decide_false, Bool.not_false, if_true, if_false]
  rw [← f9, ← f12]
  simp only [Ex.pj, Ex.eta, Ex.ag]
end Go.Su

/-
 The functions' specs that this claim needs.
-/
namespace Go.Su
set_option linter.unusedVariables false
set_option linter.unusedSimpArgs false
noncomputable def fieldsX (t : Ex) : Ex := .mk t.kind 0 0 (if eName t.kind = true then t.name else nil8) (if eArg t.kind = true then t.arg else nil8) (if eN t.kind = true then t.n else 0) (if eS t.kind = true then t.s else nil8) (if eOp t.kind = true then t.op else 0)
 (if eA t.kind = true then t.a else noTy) (if eB t.kind = true then t.b else noTy) (if t.kind = 14 then t.pats else []) []
def manyX (t : Ex) : Int := if 1 ≤ t.kind ∧ t.kind ≤ 16 then eKids t.kind t.pats.length else -1
def Ex.own4 (t : Ex) : Bool :=
 if t.kind = 1 ∨ t.kind = 9 ∨ t.kind = 11 then nameB t.name else if t.kind = 12 then nameB t.name && nameB t.arg
 else if t.kind = 3 then decide (t.n = 0) || decide (t.n = 1) else if t.kind = 4 then decide (t.s.size ≤ 200)
 else if t.kind = 14 then decide (0 < t.pats.length) else if t.kind = 16 then decide (1 ≤ t.op) && decide (t.op ≤ 7) else true
def Ex.own3 (t : Ex) : Bool := (if t.a.none = true then !decide (t.kind = 15) else t.a.closed) && (if t.b.none = true then true else t.b.closed) && t.own4
noncomputable def Ex.own (t : Ex) : Bool := decide (manyX t = (t.kids.length : Int)) && decide (t.name = (fieldsX t).name) && decide (t.arg = (fieldsX t).arg) && decide (t.n = (fieldsX t).n) && decide (t.s = (fieldsX t).s) && decide (t.op = (fieldsX t).op) && decide (t.pats.length = (fieldsX t).pats.length) &&
 decide (t.a = (fieldsX t).a) && decide (t.b = (fieldsX t).b) && t.own3
end Go.Su

/-
 What the program's functions on expressions without types give: patterns held against values.
-/
namespace Go.Su
set_option linter.unusedVariables false
set_option linter.unusedSimpArgs false
def encBd (b : ByteArray × Ex) : DV := .agg [.str b.1, .int .i64 b.2.kind, .int .i64 b.2.lo, .int .i64 b.2.hi, .str b.2.name, .str b.2.arg, .int .i64 b.2.n, .str b.2.s, .int .i64 b.2.op, .int .i64 b.2.a.kind, .int .i64 b.2.a.n, .list 3 (b.2.a.kids.map Ty.enc), .int .i64 b.2.b.kind, .int .i64 b.2.b.n, .list 3 (b.2.b.kids.map Ty.enc), .list 7 (b.2.pats.map Pat.enc), .list 16 (b.2.kids.map Ex.enc)]
theorem Ex.own_n {t : Ex} (h : t.right = true) (k : ¬ (t.kind = 2 ∨ t.kind = 3)) : t.n = 0 := by
 have o := Ex.right_one h
 unfold Ex.one Ex.one1 Ex.one2 Ex.one3 at o
 simp only [Bool.and_eq_true] at o
 have := o.2.2.2.1.1
 simpa [eN, k] using this
theorem Ex.own_s {t : Ex} (h : t.right = true) (k : ¬ t.kind = 4) : t.s = nil8 := by
 have o := Ex.right_one h
 unfold Ex.one Ex.one1 Ex.one2 Ex.one3 Ex.one4 at o
 simp only [Bool.and_eq_true] at o
 have := o.2.2.2.2.1.1
 simpa [eS, k] using this
def Held (l : List (ByteArray × Ex)) (sg : List SObj) (p : Pat) (v : Ex) (R : Option (List DV × List SObj)) : Prop :=
 match p.fits v with
 | some m => m.length ≤ p.size ∧ R = some ([.list 17 ((l ++ m).map encBd), .bool true], sg)
 | none => ∃ l' : List (ByteArray × Ex), R = some ([.list 17 (l'.map encBd), .bool false], sg)
theorem sp_erase_matches (p : Pat) : p.pat = true → ∀ v : Ex, v.right = true → ∀ (l : List (ByteArray × Ex)) (sg : List SObj), l.length + p.size ≤ lim →
 Held l sg p v ((run cfg).r F_erase_matches [(p.enc, .val), (v.enc, .val), (.list 17 (l.map encBd), .own)] sg) := by
 induction p using Pat.ind with
 | h p ih =>
   intro hp v hv l sg hl
   have hsz := p.size_pos
   have call : ∀ {q : List DV × List SObj}, P_erase_matches (run cfg) p.enc v.enc (.list 17 (l.map encBd)) sg = some q → (run cfg).r F_erase_matches [(p.enc, .val), (v.enc, .val), (.list 17 (l.map encBd), .own)] sg = some q := fun h => call_erase_matches _ _ _ _ h
   have yes : ∀ {m : List (ByteArray × Ex)}, p.fits v = some m → m.length ≤ p.size → P_erase_matches (run cfg) p.enc v.enc (.list 17 (l.map encBd)) sg = some ([.list 17 ((l ++ m).map encBd), .bool true], sg) → Held l sg p v ((run cfg).r F_erase_matches [(p.enc, .val), (v.enc, .val), (.list 17 (l.map encBd), .own)] sg) := by
    intro m h1 h2 h3
    unfold Held
    rw [h1]
    exact ⟨h2, call h3⟩
   have no : ∀ {l' : List (ByteArray × Ex)}, p.fits v = none → P_erase_matches (run cfg) p.enc v.enc (.list 17 (l.map encBd)) sg = some ([.list 17 (l'.map encBd), .bool false], sg) → Held l sg p v ((run cfg).r F_erase_matches [(p.enc, .val), (v.enc, .val), (.list 17 (l.map encBd), .own)] sg) := by
    intro l' h1 h3
    unfold Held
    rw [h1]
    exact ⟨l', call h3⟩
   have hpo := hp
   rw [Pat.pat_eq, Bool.and_eq_true] at hpo
   have ho := hpo.1
   have hf := p.fits_eq v
   rw [eq_erase_matches] at yes no
   simp only [isAggN_Pat, isAggN_Ex, og_true', Pat.proj0, Pat.proj3, dBin_eql, ob_some', oif_bool] at yes no
   by_cases k1 : p.kind = 1
   ·rw [if_pos k1] at hf
    exact yes hf (by simp) (by simp [k1])
   rw [if_neg k1] at hf
   by_cases k2 : p.kind = 2
   ·rw [if_pos k2] at hf
    have ap := dApp_map (e := encBd) (sz := 17) (l := l) (x := (p.name, v)) (by omega)
    refine yes hf (by simp; omega) ?_
    simp only [k2, Int.reduceEq, decide_false, decide_true, Bool.false_eq_true, if_false, if_true, isCell_str, og_true', Ex.pj]
    rw [show (DV.list 17 [DV.agg [.str p.name, .int .i64 v.kind, .int .i64 v.lo, .int .i64 v.hi, .str v.name, .str v.arg, .int .i64 v.n, .str v.s, .int .i64 v.op, .int .i64 v.a.kind, .int .i64 v.a.n, .list 3 (v.a.kids.map Ty.enc), .int .i64 v.b.kind, .int .i64 v.b.n, .list 3 (v.b.kids.map Ty.enc), .list 7 (v.pats.map Pat.enc), .list 16 (v.kids.map Ex.enc)]]) = .list 17 [encBd (p.name, v)] from rfl, ap]
    rfl
   rw [if_neg k2] at hf
   unfold Pat.one at ho
   have flat : ∀ (c : Int), v.kind = c → p.kids = [] → c ≠ 5 → c ≠ 7 → P_erase_matches_21 (run cfg) (.list 17 (l.map encBd)) (.int .i64 c) p.enc v.enc sg = some ([.list 17 (l.map encBd), .bool (decide (v.n = p.n) && decide (v.s = p.s))], sg) := by
    intro c hc hk h5 h7
    rw [eq_erase_matches_21]
    simp only [Ex.proj0, Ex.proj5, Ex.proj6, Pat.proj4, Pat.proj5, Pat.proj6, hc, hk, List.map_nil, dBin_neq, dBin_eql, dBin_seql, dLen_list, List.length_nil, ob_some', oif_bool, ogd_bool, decide_true, Bool.not_true, Bool.false_eq_true, if_false, Int.natCast_zero, Int.ofNat_zero, Int.cast_ofNat_Int, if_true, h5, h7, decide_false]
    cases decide (v.n = p.n) <;> simp
   have unit : ∀ (c : Int), v.kind = c → p.kids = [] → c = 5 ∨ c = 7 → P_erase_matches_21 (run cfg) (.list 17 (l.map encBd)) (.int .i64 c) p.enc v.enc sg = some ([.list 17 (l.map encBd), .bool true], sg) := by
    intro c hc hk h57
    rw [eq_erase_matches_21]
    rcases h57 with rfl | rfl <;> simp [Ex.proj0, hc, hk]
   have other : ∀ (c : Int), v.kind ≠ c → P_erase_matches_21 (run cfg) (.list 17 (l.map encBd)) (.int .i64 c) p.enc v.enc sg = some ([.list 17 (l.map encBd), .bool false], sg) := by
    intro c hc
    rw [eq_erase_matches_21]
    simp [hc]
   have nil0 : l ++ [] = l := List.append_nil l
   by_cases k3 : p.kind = 3
   ·rw [if_pos k3] at hf
    have hk := Pat.kids0 hp (by omega)
    have ps : p.s = nil8 := by
     simp only [k3, Int.reduceEq, or_self, if_false, if_true, Bool.and_eq_true, decide_eq_true_eq] at ho
     exact ho.2
    by_cases hc : v.kind = 2
    ·have vs := Ex.own_s hv (by omega)
     have fl := flat 2 hc hk (by omega) (by omega)
     by_cases hn : v.n = p.n
     ·rw [if_pos ⟨hc, hn⟩] at hf
      refine yes hf (by simp) ?_
      simp only [k3, Int.reduceEq, decide_false, decide_true, Bool.false_eq_true, if_false, if_true, fl, nil0, hn, ps, vs, Bool.and_self]
     ·rw [if_neg (fun h => hn h.2)] at hf
      refine no (l' := l) hf ?_
      simp only [k3, Int.reduceEq, decide_false, decide_true, Bool.false_eq_true, if_false, if_true, fl, hn, Bool.false_and]
    ·rw [if_neg (fun h => hc h.1)] at hf
     refine no (l' := l) hf ?_
     simp only [k3, Int.reduceEq, decide_false, decide_true, Bool.false_eq_true, if_false, if_true, other 2 hc]
   rw [if_neg k3] at hf
   by_cases k4 : p.kind = 4
   ·rw [if_pos k4] at hf
    have hk := Pat.kids0 hp (by omega)
    have ps : p.s = nil8 := by
     simp only [k4, Int.reduceEq, or_self, if_false, if_true, Bool.and_eq_true, decide_eq_true_eq] at ho
     exact ho.2
    by_cases hc : v.kind = 3
    ·have vs := Ex.own_s hv (by omega)
     have fl := flat 3 hc hk (by omega) (by omega)
     by_cases hn : v.n = p.n
     ·rw [if_pos ⟨hc, hn⟩] at hf
      refine yes hf (by simp) ?_
      simp only [k4, Int.reduceEq, decide_false, decide_true, Bool.false_eq_true, if_false, if_true, fl, nil0, hn, ps, vs, Bool.and_self]
     ·rw [if_neg (fun h => hn h.2)] at hf
      refine no (l' := l) hf ?_
      simp only [k4, Int.reduceEq, decide_false, decide_true, Bool.false_eq_true, if_false, if_true, fl, hn, Bool.false_and]
    ·rw [if_neg (fun h => hc h.1)] at hf
     refine no (l' := l) hf ?_
     simp only [k4, Int.reduceEq, decide_false, decide_true, Bool.false_eq_true, if_false, if_true, other 3 hc]
   rw [if_neg k4] at hf
   by_cases k5 : p.kind = 5
   ·rw [if_pos k5] at hf
    have hk := Pat.kids0 hp (by omega)
    have pn : p.n = 0 := by
     simp only [k5, Int.reduceEq, or_self, if_false, if_true, Bool.and_eq_true, decide_eq_true_eq] at ho
     exact ho.2
    by_cases hc : v.kind = 4
    ·have vn := Ex.own_n hv (by omega)
     have fl := flat 4 hc hk (by omega) (by omega)
     by_cases hn : v.s = p.s
     ·rw [if_pos ⟨hc, hn⟩] at hf
      refine yes hf (by simp) ?_
      simp only [k5, Int.reduceEq, decide_false, decide_true, Bool.false_eq_true, if_false, if_true, fl, nil0, hn, pn, vn, Bool.and_self]
     ·rw [if_neg (fun h => hn h.2)] at hf
      refine no (l' := l) hf ?_
      simp only [k5, Int.reduceEq, decide_false, decide_true, Bool.false_eq_true, if_false, if_true, fl, hn, Bool.and_false]
    ·rw [if_neg (fun h => hc h.1)] at hf
     refine no (l' := l) hf ?_
     simp only [k5, Int.reduceEq, decide_false, decide_true, Bool.false_eq_true, if_false, if_true, other 4 hc]
   rw [if_neg k5] at hf
   by_cases k6 : p.kind = 6
   ·rw [if_pos k6] at hf
    have hk := Pat.kids0 hp (by omega)
    by_cases hc : v.kind = 5
    ·rw [if_pos hc] at hf
     refine yes hf (by simp) ?_
     simp only [k6, Int.reduceEq, decide_false, decide_true, Bool.false_eq_true, if_false, if_true, unit 5 hc hk (.inl rfl), nil0]
    ·rw [if_neg hc] at hf
     refine no (l' := l) hf ?_
     simp only [k6, Int.reduceEq, decide_false, decide_true, Bool.false_eq_true, if_false, if_true, other 5 hc]
   rw [if_neg k6] at hf
   by_cases k8 : p.kind = 8
   ·rw [if_pos k8] at hf
    have hk := Pat.kids0 hp (by omega)
    by_cases hc : v.kind = 7
    ·rw [if_pos hc] at hf
     refine yes hf (by simp) ?_
     simp only [k8, Int.reduceEq, decide_false, decide_true, Bool.false_eq_true, if_false, if_true, unit 7 hc hk (.inr rfl), nil0]
    ·rw [if_neg hc] at hf
     refine no (l' := l) hf ?_
     simp only [k8, Int.reduceEq, decide_false, decide_true, Bool.false_eq_true, if_false, if_true, other 7 hc]
   rw [if_neg k8] at hf
   have two : ∀ c : Int, v.kind = c → (c = 6 ∨ c = 8) → (p.kind = 7 ∧ v.kind = 6 ∨ p.kind = 9 ∧ v.kind = 8) → ∃ l', P_erase_matches_21 (run cfg) (.list 17 (l.map encBd)) (.int .i64 c) p.enc v.enc sg = some ([.list 17 (l'.map encBd), .bool (p.fits v).isSome], sg) ∧ ∀ m, p.fits v = some m → l' = l ++ m ∧ m.length ≤ p.size := by
    intro c hc hc68 hk
    rw [if_pos hk] at hf
    have v68 : v.kind = 6 ∨ v.kind = 8 := by omega
    have hlen := Ex.one_kids (Ex.right_one hv)
    have hl2 : v.kids.length = 2 := by
     rcases v68 with k | k <;> rw [k] at hlen <;> simp [eKids] at hlen <;> omega
    obtain ⟨a, b, hab⟩ : ∃ a b, v.kids = [a, b] := by
     match hvk : v.kids, hl2 with
     | [a, b], _ => exact ⟨a, b, rfl⟩
    have hpl : p.kids.length = 2 := by
     have k79 : p.kind = 7 ∨ p.kind = 9 := by omega
     have n1 : ¬ (p.kind = 1 ∨ p.kind = 6 ∨ p.kind = 8) := by omega
     simp only [n1, k2, k3, k4, k5, k79, if_false, if_true, Bool.and_eq_true, decide_eq_true_eq] at ho
     exact ho.1.1.1
    obtain ⟨f, g, hfg⟩ : ∃ f g, p.kids = [f, g] := by
     match hpk : p.kids, hpl with
     | [a, b], _ => exact ⟨a, b, rfl⟩
    have hp2 := hpo.2
    rw [hfg] at hp2
    simp only [List.all_cons, List.all_nil, Bool.and_true, Bool.and_eq_true] at hp2
    have psz := p.size_eq
    rw [hfg] at psz
    simp only [List.map_cons, List.map_nil, List.sum_cons, List.sum_nil] at psz
    rw [hfg, hab] at hf
    simp only [List.map_cons, List.map_nil] at hf
    have ra : a.right = true := Ex.right_kid hv (by rw [hab]; simp)
    have rb : b.right = true := Ex.right_kid hv (by rw [hab]; simp)
    have i1 := ih f (by rw [hfg]; simp) hp2.1 a ra l sg (by omega)
    have c5 : c ≠ 5 := by omega
    have c7 : c ≠ 7 := by omega
    rw [eq_erase_matches_21]
    have dp0 : dIdx 7 (.list 7 (p.kids.map Pat.enc)) (.int .i64 0) = some f.enc := by rw [hfg]; rfl
    have dp1 : dIdx 7 (.list 7 (p.kids.map Pat.enc)) (.int .i64 1) = some g.enc := by rw [hfg]; rfl
    have dv0 : dIdx 16 (.list 16 (v.kids.map Ex.enc)) (.int .i64 0) = some a.enc := by rw [hab]; rfl
    have dv1 : dIdx 16 (.list 16 (v.kids.map Ex.enc)) (.int .i64 1) = some b.enc := by rw [hab]; rfl
    unfold Held at i1
    cases h1 : f.fits a with
    | none =>
      rw [h1] at i1 hf
      obtain ⟨l', e1⟩ := i1
      refine ⟨l', ?_, fun m hm => ?_⟩
      ·rw [hf]
       simp only [Ex.pj, Ex.eta, Ex.ag, Pat.pj, Pat.eta, Pat.ag, hc, dBin_neq, decide_true, Bool.not_true, ob_some', oif_bool, Bool.false_eq_true, if_false, dLen_list, List.length_map, hpl, dBin_eql, Int.cast_ofNat_Int, Int.reduceEq, decide_false, dp0, dv0, e1, dExt_0, dExt_1, dUn_not, Bool.not_false, if_true]
       rfl
      ·rw [hf] at hm; cases hm
    | some m1 =>
      rw [h1] at i1 hf
      obtain ⟨s1, e1⟩ := i1
      simp only [Option.bind_some] at hf
      have s1' : m1.length ≤ f.size := s1
      have hlm : (l ++ m1).length + g.size ≤ lim := by rw [List.length_append]; omega
      have i2 := ih g (by rw [hfg]; simp) hp2.2 b rb (l ++ m1) sg hlm
      unfold Held at i2
      cases h2 : g.fits b with
      | none =>
        rw [h2] at i2 hf
        obtain ⟨l', e2⟩ := i2
        refine ⟨l', ?_, fun m hm => ?_⟩
        ·rw [hf]
         simp only [Ex.pj, Ex.eta, Ex.ag, Pat.pj, Pat.eta, Pat.ag, hc, dBin_neq, decide_true, Bool.not_true, ob_some', oif_bool, Bool.false_eq_true, if_false, dLen_list, List.length_map, hpl, dBin_eql, Int.cast_ofNat_Int, Int.reduceEq, decide_false, dp0, dv0, dp1, dv1, e1, e2, dExt_0, dExt_1, dUn_not, if_true]
         rfl
        ·rw [hf] at hm; cases hm
      | some m2 =>
        rw [h2] at i2 hf
        obtain ⟨s2, e2⟩ := i2
        refine ⟨l ++ (m1 ++ m2), ?_, fun m hm => ?_⟩
        ·rw [hf]
         simp only [Ex.pj, Ex.eta, Ex.ag, Pat.pj, Pat.eta, Pat.ag, hc, dBin_neq, decide_true, Bool.not_true, ob_some', oif_bool, Bool.false_eq_true, if_false, dLen_list, List.length_map, hpl, dBin_eql, Int.cast_ofNat_Int, Int.reduceEq, decide_false, dp0, dv0, dp1, dv1, e1, e2, dExt_0, dExt_1, dUn_not, if_true, List.append_assoc]
         rfl
        ·rw [hf] at hm
         simp only [Option.map_some, Option.some.injEq] at hm
         subst hm
         exact ⟨rfl, by rw [List.length_append]; omega⟩
   have fin : ∀ c : Int, (c = 6 ∨ c = 8) → (v.kind = c → p.kind = 7 ∧ v.kind = 6 ∨ p.kind = 9 ∧ v.kind = 8) → (v.kind ≠ c → ¬ (p.kind = 7 ∧ v.kind = 6 ∨ p.kind = 9 ∧ v.kind = 8)) → ∃ l', P_erase_matches_21 (run cfg) (.list 17 (l.map encBd)) (.int .i64 c) p.enc v.enc sg = some ([.list 17 (l'.map encBd), .bool (p.fits v).isSome], sg) ∧ ∀ m, p.fits v = some m → l' = l ++ m ∧ m.length ≤ p.size := by
    intro c h68 h1 h2
    by_cases hc : v.kind = c
    ·exact two c hc h68 (h1 hc)
    ·rw [if_neg (h2 hc)] at hf
     exact ⟨l, by rw [other c hc, hf]; rfl, fun m hm => by rw [hf] at hm; cases hm⟩
   have done : ∀ c : Int, (c = 6 ∨ c = 8) → (v.kind = c → p.kind = 7 ∧ v.kind = 6 ∨ p.kind = 9 ∧ v.kind = 8) → (v.kind ≠ c → ¬ (p.kind = 7 ∧ v.kind = 6 ∨ p.kind = 9 ∧ v.kind = 8)) → (P_erase_matches (run cfg) p.enc v.enc (.list 17 (l.map encBd)) sg = P_erase_matches_21 (run cfg) (.list 17 (l.map encBd)) (.int .i64 c) p.enc v.enc sg) → Held l sg p v ((run cfg).r F_erase_matches [(p.enc, .val), (v.enc, .val), (.list 17 (l.map encBd), .own)] sg) := by
    intro c h68 h1 h2 e
    obtain ⟨l', e1, e2⟩ := fin c h68 h1 h2
    unfold Held
    cases hm : p.fits v with
    | none =>
      rw [hm] at e1
      exact ⟨l', call (e.trans e1)⟩
    | some m =>
      obtain ⟨rfl, e3⟩ := e2 m hm
      rw [hm] at e1
      exact ⟨e3, call (e.trans e1)⟩
   by_cases k7 : p.kind = 7
   ·refine done 6 (.inl rfl) (fun h => .inl ⟨k7, h⟩) (fun h => by omega) ?_
    rw [eq_erase_matches]
    simp [k7]
   ·have k9 : p.kind = 9 := by
     have n1 : ¬ (p.kind = 1 ∨ p.kind = 6 ∨ p.kind = 8) := by omega
     simp only [n1, k2, k3, k4, k5, if_false] at ho
     split at ho
     ·omega
     ·cases ho
    refine done 8 (.inr rfl) (fun h => .inr ⟨k9, h⟩) (fun h => by omega) ?_
    rw [eq_erase_matches]
    simp [k9]
end Go.Su

/-
 The functions' specs that this claim needs.
-/
namespace Go.Su
set_option linter.unusedVariables false
set_option linter.unusedSimpArgs false
theorem big {n : Nat} (h : n ≤ lim) : n < 4294967297 := by unfold lim at h; omega
def Deriv.fit (d : Deriv) : Prop := d.types.length < lim ∧ d.vars.length < lim ∧ d.kids.length < lim ∧ (∀ t ∈ d.types, t.thin = true) ∧ ∀ k : { x // x ∈ d.kids }, Deriv.fit k.1
termination_by SizeOf.sizeOf d
decreasing_by exact Deriv.kid_lt k.2
def Deriv.put (l : List (Int × Ty)) : Deriv → Deriv
 | .mk ts vs ks => .mk (ts.map (Ty.put l)) vs (ks.map (Deriv.put l))
theorem encStrs_nil : (.list 1 [] : DV) = encStrs [] := rfl
theorem sp_slices_IndexS (l : List ByteArray) (hl : l.length ≤ lim) (n : ByteArray) : ∃ k : Int, (run cfg).p F_slices_Index__string_string [encStrs l, .str n] = some (.int .i64 k) ∧ (0 ≤ k ↔ (l.any fun x => decide (x = n)) = true) := by
 have hb := big hl
 have loop : ∀ (m i : Nat), i + m = l.length → ∃ k : Int, P_slices_Index__string_string_2h (run cfg) (encStrs l) (.str n) (.int .i64 l.length) (.int .i64 i) = some (.int .i64 k) ∧ (0 ≤ k ↔ ((l.drop i).any fun x => decide (x = n)) = true) := by
  intro m
  induction m with
  | zero =>
    intro i hi
    refine ⟨-1, ?_, ?_⟩
    ·have : ¬ i < l.length := by omega
     rw [eq_slices_Index__string_string_2h]
     simp [this]
    ·rw [List.drop_of_length_le (by omega)]; simp
  | succ m ih =>
    intro i hi
    have h : i < l.length := by omega
    rw [eq_slices_Index__string_string_2h, List.drop_eq_getElem_cons h]
    by_cases e : n = l[i]
    ·refine ⟨i, by simp [h, dIdx_strs h, e], ?_⟩
     simp [← e]
    ·obtain ⟨k, h1, h2⟩ := ih (i + 1) (by omega)
     push_cast at h1
     refine ⟨k, by simp [h, dIdx_strs h, e, dAdd1 (show i < 9223372036854775807 by omega), h1], ?_⟩
     rw [h2, List.any_cons]
     have : decide (l[i] = n) = false := by simpa using fun h' => e h'.symm
     rw [this, Bool.false_or]
 obtain ⟨k, h1, h2⟩ := loop l.length 0 (by omega)
 refine ⟨k, call_slices_Index__string_string _ _ ?_, by simpa using h2⟩
 rw [eq_slices_Index__string_string]
 simpa using h1
theorem sp_slices_ContainsS (l : List ByteArray) (hl : l.length ≤ lim) (n : ByteArray) : (run cfg).p F_slices_Contains__string_string [encStrs l, .str n] = some (.bool (l.any fun x => decide (x = n))) := by
 refine call_slices_Contains__string_string _ _ ?_
 rw [eq_slices_Contains__string_string]
 obtain ⟨k, h1, h2⟩ := sp_slices_IndexS l hl n
 simp only [h1, ob_some', dBin_geq]
 congr 2
 rw [Bool.eq_iff_iff, ← h2]
 simp
theorem sp_erase_patNames (t : Pat) : ∀ (l : List ByteArray) (sg : List SObj), l.length + t.size ≤ lim → (run cfg).r F_erase_patNames [(t.enc, .val), (encStrs l, .own)] sg = some ([encStrs (t.namesOn l)], sg) := by
 induction t using Pat.ind with
 | h t ih =>
   intro l sg hl
   have hb := Pat.thin_len _ (Pat.thin_of_size (show t.size ≤ lim by omega))
   have hB := big hl
   refine call_erase_patNames _ _ _ ?_
   have loop : ∀ l : List ByteArray, l.length + (t.kids.map Pat.size).sum ≤ lim → P_erase_patNames_4h (run cfg) (encStrs l) (.list 7 (t.kids.map Pat.enc)) (.int .i64 t.kids.length) (.int .i64 0) sg = some ([encStrs (t.kids.foldl (fun l k => k.namesOn l) l)], sg) :=
    loop_fold (l := t.kids) (P := fun i (a : List ByteArray) => P_erase_patNames_4h (run cfg) (encStrs a) (.list 7 (t.kids.map Pat.enc)) (.int .i64 t.kids.length) (.int .i64 i) sg) (g := fun a k => k.namesOn a) (fin := fun a => some ([encStrs a], sg))
     (I := fun i a => a.length + ((t.kids.drop i).map Pat.size).sum ≤ lim)
     (fun a _ => by rw [eq_erase_patNames_4h]; simp)
     (fun i h a ha => by
       rw [List.drop_eq_getElem_cons h, List.map_cons, List.sum_cons] at ha
       have h1 := Pat.namesOn_len t.kids[i] a
       refine ⟨?_, by omega⟩
       rw [eq_erase_patNames_4h]
       simp [h, dIdx_map h, Pat.eta, Pat.ag, ih _ (List.getElem_mem h) a sg (by omega), dAdd1 (show i < 9223372036854775807 by omega)])
   have hsz := Pat.size_eq t
   rw [eq_erase_patNames, Pat.namesOn_eq]
   simp
   by_cases h6 : t.kind = 2
   ·simp [h6]
    rw [show encStrs l = .list 1 (l.map fun n => .str n) from rfl, dApp_list (by simp; omega)]
    have := loop (l ++ [t.name]) (by simp; omega)
    simpa [encStrs] using this
   ·simp [h6, loop l (by omega)]
def Ex.hid (t : Ex) (x : DV) : DV := .agg [.int .i64 t.kind, .int .i64 t.lo, .int .i64 t.hi, .str t.name, .str t.arg, .int .i64 t.n, .str t.s, .int .i64 t.op, .int .i64 t.a.kind, .int .i64 t.a.n, .list 3 (t.a.kids.map Ty.enc), .int .i64 t.b.kind, .int .i64 t.b.n, .list 3 (t.b.kids.map Ty.enc), .list 7 (t.pats.map Pat.enc), x]
@[simp] theorem Ex.hid_agg (t : Ex) (x : DV) : isAggN 16 (t.hid x) = true := rfl
@[simp] theorem Ex.hid0 (t : Ex) (x : DV) : proj 0 (t.hid x) = .int .i64 t.kind := rfl
@[simp] theorem Ex.hid3 (t : Ex) (x : DV) : proj 3 (t.hid x) = .str t.name := rfl
@[simp] theorem Ex.hid4 (t : Ex) (x : DV) : proj 4 (t.hid x) = .str t.arg := rfl
@[simp] theorem Ex.hid14 (t : Ex) (x : DV) : proj 14 (t.hid x) = .list 7 (t.pats.map Pat.enc) := rfl
theorem sp_erase_binds (t : Ex) (x : DV) (ht : t.fit1) (i : Nat) (s : ByteArray) (hi : t.kind = 14 → i ≤ t.pats.length) : (run cfg).p F_erase_binds [t.hid x, .int .i64 i, .str s] = some (.bool ((t.binds i).any fun x => decide (x = s))) := by
 have hp := big (Nat.le_of_lt ht.pats)
 refine call_erase_binds _ _ _ ?_
 have i1 : decide ((i : Int) = 1) = decide (i = 1) := by rw [decide_eq_decide]; omega
 have p4 : P_erase_binds_4 (run cfg) (.str s) (t.hid x) = some (.bool (decide (t.name = s))) := by
  rw [eq_erase_binds_4]
  simp
 have p5 : ¬ (t.kind = 9 ∨ (t.kind = 11 ∧ i = 1) ∨ (t.kind = 12 ∧ i = 1)) → P_erase_binds_5 (run cfg) (.int .i64 i) (.str s) (t.hid x) = some (.bool ((t.binds i).any fun x => decide (x = s))) := by
  intro h
  rw [eq_erase_binds_5]
  unfold Ex.binds
  rw [if_neg h]
  by_cases h1 : t.kind = 12
  ·simp [h1]
   by_cases e : t.name = s <;> simp [e]
  ·by_cases h2 : t.kind = 14
   ·by_cases h3 : 0 < i
    ·have hlt : i - 1 < t.pats.length := by have := hi h2; omega
     have e1 : dBin .sub (.int .i64 (i : Int)) (.int .i64 1) = some (.int .i64 ((i - 1 : Nat) : Int)) := by
      rw [dBin_sub, wrap_id (by omega) (by have := hi h2; omega)]
      congr 3
      omega
     have hsz := (ht.pat _ (List.getElem_mem hlt)).size
     have nm := sp_erase_patNames t.pats[i - 1] [] [] (by simpa using hsz)
     rw [← encStrs_nil] at nm
     have hnl : t.pats[i - 1].names.length ≤ lim := by have := Pat.namesOn_len t.pats[i - 1] []; simp at this; unfold Pat.names; omega
     have hc := sp_slices_ContainsS t.pats[i - 1].names hnl s
     simp [h1, h2, h3, e1, dIdx_map hlt, Pat.eta, Pat.ag, nm, List.getElem?_eq_getElem hlt]
     rw [show t.pats[i - 1].namesOn [] = t.pats[i - 1].names from rfl, hc]
     rfl
    ·simp [h1, h2, h3]
   ·simp [h1, h2]
 have one : t.kind = 9 ∨ (t.kind = 11 ∧ i = 1) ∨ (t.kind = 12 ∧ i = 1) → ((t.binds i).any fun x => decide (x = s)) = decide (t.name = s) := fun h => by unfold Ex.binds; rw [if_pos h]; simp
 rw [eq_erase_binds]
 by_cases h9 : t.kind = 9
 ·simp [h9, one (.inl h9), p4]
 ·by_cases h11 : t.kind = 11
  ·by_cases h1 : i = 1
   ·have o1 := one (.inr (.inl ⟨h11, h1⟩))
    subst h1
    simp [h11, o1, p4]
   ·have := p5 (by rintro (h | h | h); exact h9 h; exact h1 h.2; exact h1 h.2)
    simp only [Ex.hid_agg, og_true', Ex.hid0, h11, dBin_eql, ob_some', oif_bool, ogd_bool, i1, h1, decide_false, decide_true, Bool.false_eq_true, if_false, if_true, show decide ((11 : Int) = 9) = false from rfl, show decide ((11 : Int) = 12) = false from rfl, this]
  ·by_cases h12 : t.kind = 12
   ·by_cases h1 : i = 1
    ·have o1 := one (.inr (.inr ⟨h12, h1⟩))
     subst h1
     simp [h12, o1, p4]
    ·have := p5 (by rintro (h | h | h); exact h9 h; exact h1 h.2; exact h1 h.2)
     simp only [Ex.hid_agg, og_true', Ex.hid0, h12, dBin_eql, ob_some', oif_bool, ogd_bool, i1, h1, decide_false, decide_true, Bool.false_eq_true, if_false, if_true, show decide ((12 : Int) = 9) = false from rfl, show decide ((12 : Int) = 11) = false from rfl, this]
   ·have := p5 (by rintro (h | h | h); exact h9 h; exact h11 h.1; exact h12 h.1)
    simp only [Ex.hid_agg, og_true', Ex.hid0, dBin_eql, ob_some', oif_bool, ogd_bool, h9, h11, h12, decide_false, Bool.false_eq_true, if_false, this]
theorem Ex.withKids_enc (t : Ex) (ks : List Ex) : DV.agg [.int .i64 t.kind, .int .i64 t.lo, .int .i64 t.hi, .str t.name, .str t.arg, .int .i64 t.n, .str t.s, .int .i64 t.op, .int .i64 t.a.kind, .int .i64 t.a.n, .list 3 (t.a.kids.map Ty.enc), .int .i64 t.b.kind, .int .i64 t.b.n, .list 3 (t.b.kids.map Ty.enc), .list 7 (t.pats.map Pat.enc), .list 16 (ks.map Ex.enc)] = (t.withKids ks).enc := by
 rw [Ex.enc_eq]; rfl
theorem sealVal (sg : List SObj) (d : DV) : sealCell sg (d, .val) = some d := rfl
theorem sealArr (l : List Ex) (n : Nat) (h : l.length = n) : sealCell [.arr 16 (l.map Ex.enc)] (.undef, .arr 0 16 0 n) = some (.list 16 (l.map Ex.enc)) := by
 have : sgArr [SObj.arr 16 (l.map Ex.enc)] 0 = some (16, l.map Ex.enc) := rfl
 simp only [sealCell, this, ob_some', BEq.rfl, og_true', Nat.zero_add, List.length_map, h, Nat.le_refl, if_true, List.drop_zero]
 rw [List.take_of_length_le (by simp [h])]
theorem sp_erase_put (s : ByteArray) (v : Ex) (t : Ex) : t.fit → t.right = true → (run cfg).p F_erase_put [t.enc, .str s, v.enc] = some (t.put s v).enc := by
 induction t using Ex.ind with
 | h t ih =>
   intro ft rt
   have hk := big (Nat.le_of_lt ft.one.kids)
   have ee : ∀ k : Ex, (DV.agg [proj 0 k.enc, proj 1 k.enc, proj 2 k.enc, proj 3 k.enc, proj 4 k.enc, proj 5 k.enc, proj 6 k.enc, proj 7 k.enc, proj 8 k.enc, proj 9 k.enc, proj 10 k.enc, proj 11 k.enc, proj 12 k.enc, proj 13 k.enc, proj 14 k.enc, proj 15 k.enc]) = k.enc := fun k => by simp [Ex.eta, Ex.ag]
   have loop : ∀ (n j : Nat) (cur : List Ex), j + n = t.kids.length → cur.length = t.kids.length → (∀ i : Nat, j ≤ i → cur[i]? = t.kids[i]?) →
    P_erase_put_5h (run cfg) (.str s) t.kids.length (.int .i64 t.kids.length) (.int .i64 (j : Int)) (.int .i64 t.kind) (.int .i64 t.lo) (.int .i64 t.hi) (.str t.name) (.str t.arg) (.int .i64 t.n) (.str t.s) (.int .i64 t.op) (.int .i64 t.a.kind) (.int .i64 t.a.n) (.list 3 (t.a.kids.map Ty.enc)) (.int .i64 t.b.kind) (.int .i64 t.b.n) (.list 3 (t.b.kids.map Ty.enc)) (.list 7 (t.pats.map Pat.enc)) t.kids.length v.enc [.arr 16 (cur.map Ex.enc)] =
    some (t.withKids (cur.take j ++ Ex.putL t.binds j (t.kids.drop j) s v)).enc := by
    intro n
    induction n with
    | zero =>
      intro j cur hj hc _
      have e : j = t.kids.length := by omega
      subst e
      rw [eq_erase_put_5h, List.drop_length, Ex.putL_nil, List.append_nil, List.take_of_length_le (Nat.le_of_eq hc)]
      simp only [dBin_lss, Int.lt_irrefl, decide_false, ob_some', oif_bool, Bool.false_eq_true, if_false, sealCells, sealArr cur _ hc, sealVal, retL, seqO]
      rw [Ex.withKids_enc]
      rfl
    | succ n ihn =>
      intro j cur hj hc hcur
      have h : j < t.kids.length := by omega
      have h' : j < cur.length := by omega
      have hcj : cur[j] = t.kids[j] := by
       have := hcur j (Nat.le_refl _)
       rw [List.getElem?_eq_getElem h, List.getElem?_eq_getElem h'] at this
       simpa using this
      have hbi := sp_erase_binds t .undef ft.one j s (fun h14 => by have := Ex.kids14 rt h14; omega)
      unfold Ex.hid at hbi
      have a1 : arrIdx 0 t.kids.length (.int .i64 (j : Int)) = some j := by
       show (if (0 : Int) ≤ (j : Int) ∧ (j : Int) < (t.kids.length : Int) then some (0 + (j : Int).toNat) else none) = some j
       rw [if_pos ⟨by omega, by omega⟩]
       simp
      have g1 : (cur.map Ex.enc)[j]? = some t.kids[j].enc := by rw [List.getElem?_map, List.getElem?_eq_getElem h', hcj]; rfl
      have sa : sgArr [SObj.arr 16 (cur.map Ex.enc)] 0 = some (16, cur.map Ex.enc) := rfl
      have e1 : dBin .add (.int .i64 (j : Int)) (.int .i64 1) = some (.int .i64 ((j + 1 : Nat) : Int)) := dAdd1 (show j < 9223372036854775807 by omega)
      rw [List.drop_eq_getElem_cons h, Ex.putL_cons, eq_erase_put_5h]
      by_cases hb : ((t.binds j).any fun x => decide (x = s)) = true
      ·have nx := ihn (j + 1) cur (by omega) hc (fun i hi => hcur i (by omega))
       simp only [dBin_lss, Int.ofNat_lt, h, decide_true, ob_some', oif_bool, if_true, a1, sa, g1, BEq.rfl, og_true', hbi, hb, dUn_not, Bool.not_true, Bool.false_eq_true, if_false, e1]
       rw [nx, List.take_succ_eq_append_getElem h', hcj, List.append_assoc]
       rfl
      ·have hb' : ((t.binds j).any fun x => decide (x = s)) = false := Bool.eq_false_iff.2 hb
       have f1 := ih _ (List.getElem_mem h) (ft.kid (List.getElem_mem h)) (Ex.right_kid rt (List.getElem_mem h))
       have nx := ihn (j + 1) (cur.set j (t.kids[j].put s v)) (by omega) (by simpa using hc) (fun i hi => by rw [List.getElem?_set_ne (by omega)]; exact hcur i (by omega))
       simp only [dBin_lss, Int.ofNat_lt, h, decide_true, ob_some', oif_bool, if_true, a1, sa, g1, BEq.rfl, og_true', hbi, hb', dUn_not, Bool.not_false, ee, f1, isAggN_Ex, e1, List.set_cons_zero]
       rw [List.map_set] at nx
       rw [nx, List.take_succ_eq_append_getElem (by simpa using h'), List.append_assoc, List.take_set_of_le (Nat.le_refl _)]
       simp only [List.getElem_set_self, Bool.false_eq_true, if_false]
       rfl
   have h3 : P_erase_put_3 (run cfg) (.str s) t.enc v.enc = some (t.withKids (Ex.putL t.binds 0 t.kids s v)).enc := by
    rw [eq_erase_put_3]
    have hle : t.kids.length ≤ lim := Nat.le_of_lt ft.one.kids
    simp only [Ex.pj, dList_list, ob_some', BEq.rfl, Bool.true_and, List.length_map, hle, decide_true, og_true']
    have := loop t.kids.length 0 t.kids (by omega) rfl (fun i _ => rfl)
    simpa using this
   refine call_erase_put _ _ _ ?_
   rw [eq_erase_put, Ex.put_eq]
   by_cases h1 : t.kind = 1
   ·by_cases h2 : t.name = s
    ·simp only [isAggN_Ex, og_true', Ex.proj0 t, Ex.proj3 t, dBin_eql, dBin_seql, ob_some', ogd_bool, oif_bool, h1, h2, decide_true, if_true, ee, and_self]
    ·simp only [isAggN_Ex, og_true', Ex.proj0 t, Ex.proj3 t, dBin_eql, dBin_seql, ob_some', ogd_bool, oif_bool, h1, h2, decide_true, decide_false, if_true, Bool.false_eq_true, if_false, and_false]
     exact h3
   ·simp only [isAggN_Ex, og_true', Ex.proj0 t, Ex.proj3 t, dBin_eql, ob_some', ogd_bool, h1, decide_false, Bool.false_eq_true, if_false, false_and]
    exact h3
end Go.Su

/-
 What the program's functions on expressions without types give: an arm of a match.
-/
namespace Go.Su
set_option linter.unusedVariables false
set_option linter.unusedSimpArgs false
theorem encBd0 (b : ByteArray × Ex) : proj 0 (encBd b) = .str b.1 := rfl
theorem encBdE (b : ByteArray × Ex) : DV.agg [proj 1 (encBd b), proj 2 (encBd b), proj 3 (encBd b), proj 4 (encBd b), proj 5 (encBd b), proj 6 (encBd b), proj 7 (encBd b), proj 8 (encBd b), proj 9 (encBd b), proj 10 (encBd b), proj 11 (encBd b), proj 12 (encBd b), proj 13 (encBd b), proj 14 (encBd b), proj 15 (encBd b), proj 16 (encBd b)] = b.2.enc := Ex.eta b.2
theorem sp_match_put (l : List (ByteArray × Ex)) (hl : l.length ≤ lim) (hb : ∀ b ∈ l, b.2.fit ∧ b.2.right = true) (b2_0 b2_1 b2_2 b2_3 b2_4 b2_5 b2_6 b2_7 b2_8 b2_9 b2_10 b2_11 b2_12 b2_13 b2_14 b2_15 : DV) (x : Ex) (fx : x.fit) (rx : x.right = true) (sg : List SObj) :
 P_erase_match_8h (run cfg) (.list 17 (l.map encBd)) (.int .i64 l.length) (.int .i64 0) x.enc sg =
  some (.tup [(x.putAll l).enc, R3.ok.enc]) := by
 have hB := big hl
 have ok0 : DV.agg [.int .i64 0, .int .i64 0, .int .i64 0, .str ⟨#[]⟩, .int .i64 0, .int .i64 0, .int .i64 0, .bool false, .list 5 [], .list 9 [], .int .i64 0, .bool false, .int .i64 0, .int .i64 0, .int .i64 0] = R3.ok.enc := rfl
 have loop : ∀ (n j : Nat) (x : Ex), j + n = l.length → x.fit → x.right = true → P_erase_match_8h (run cfg) (.list 17 (l.map encBd)) (.int .i64 l.length) (.int .i64 (j : Int)) x.enc sg = some (.tup [(x.putAll (l.drop j)).enc, R3.ok.enc]) := by
  intro n
  induction n with
  | zero =>
    intro j x hj _ _
    have e : j = l.length := by omega
    subst e
    rw [eq_erase_match_8h, List.drop_length]
    simp only [dBin_lss, Int.lt_irrefl, decide_false, ob_some', oif_bool, Bool.false_eq_true, if_false, exx, ok0]
    rfl
  | succ n ihn =>
    intro j x hj fx rx
    have h : j < l.length := by omega
    obtain ⟨fv, rv⟩ := hb _ (List.getElem_mem h)
    have p := sp_erase_put l[j].1 l[j].2 x fx rx
    have nx := ihn (j + 1) (x.put l[j].1 l[j].2) (by omega) (Ex.put_fit x _ _ fv fx) (Ex.put_right x _ _ rv rx)
    rw [eq_erase_match_8h]
    simp only [dBin_lss, Int.ofNat_lt, h, decide_true, ob_some', oif_bool, if_true, dIdx_map h, exx, encBd0, encBdE, p, isAggN_Ex, og_true', dAdd1 (show j < 9223372036854775807 by omega)]
    rw [nx, List.drop_eq_getElem_cons h]
    rfl
 have := loop l.length 0 x (by omega) fx rx
 simpa using this
end Go.Su

/-
 The functions' specs that this claim needs.
-/
namespace Go.Su
set_option linter.unusedVariables false
set_option linter.unusedSimpArgs false
theorem pax (k : Pat) : (DV.agg [proj 0 k.enc, proj 1 k.enc, proj 2 k.enc, proj 3 k.enc, proj 4 k.enc, proj 5 k.enc, proj 6 k.enc]) = k.enc := by simp [Pat.eta, Pat.ag]
end Go.Su
