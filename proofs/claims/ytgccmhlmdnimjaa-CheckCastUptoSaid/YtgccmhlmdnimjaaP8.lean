/-
  Equations of the program's functions: by program.
-/
import Derived.Test.YtgccmhlmdnimjaaP5
namespace Go.Su
open Go.Proofs
set_option linter.unusedVariables false

/-! ### r17_own -/
noncomputable def code_r17_own : Code := Try.f49.body.getD .skip
noncomputable def P_r17_own (R : Orc) (x0 : DV) : Option DV := evP cfg R fl_r17_own (retP cfg.P Try.f49) [] code_r17_own (initSt Try.f49 [(x0, .val)] [])
noncomputable def P_r17_own_5h (R : Orc) (t5 : DV) (b1 : DV) : Option DV := headP cfg R fl_r17_own (retP cfg.P Try.f49) [true, true, true, false, true, false] code_r17_own ⟨spread .undef 168 0 [(5, t5)], spread .val 168 0 [(1, (.loc 1 0))], spread none 168 0 [(1, some [((proj 0 b1), .val), ((proj 1 b1), .val), ((proj 2 b1), .val), ((proj 3 b1), .val), ((proj 4 b1), .val), ((proj 5 b1), .val), ((proj 6 b1), .val), ((proj 7 b1), .val), ((proj 8 b1), .val), ((proj 9 b1), .val), ((proj 10 b1), .val), ((proj 11 b1), .val), ((proj 12 b1), .val), ((proj 13 b1), .val), ((proj 14 b1), .val), ((proj 15 b1), .val), ((proj 16 b1), .val), ((proj 17 b1), .val), ((proj 18 b1), .val), ((proj 19 b1), .val)])], []⟩
noncomputable def P_r17_own_10h (R : Orc) (t6 : DV) (b1 : DV) : Option DV := headP cfg R fl_r17_own (retP cfg.P Try.f49) [true, true, true, true, false, true, false] code_r17_own ⟨spread .undef 168 0 [(6, t6)], spread .val 168 0 [(1, (.loc 1 0))], spread none 168 0 [(1, some [((proj 0 b1), .val), ((proj 1 b1), .val), ((proj 2 b1), .val), ((proj 3 b1), .val), ((proj 4 b1), .val), ((proj 5 b1), .val), ((proj 6 b1), .val), ((proj 7 b1), .val), ((proj 8 b1), .val), ((proj 9 b1), .val), ((proj 10 b1), .val), ((proj 11 b1), .val), ((proj 12 b1), .val), ((proj 13 b1), .val), ((proj 14 b1), .val), ((proj 15 b1), .val), ((proj 16 b1), .val), ((proj 17 b1), .val), ((proj 18 b1), .val), ((proj 19 b1), .val)])], []⟩
noncomputable def P_r17_own_15h (R : Orc) (t7 : DV) (b1 : DV) : Option DV := headP cfg R fl_r17_own (retP cfg.P Try.f49) [true, true, true, true, true, false, true, false] code_r17_own ⟨spread .undef 168 0 [(7, t7)], spread .val 168 0 [(1, (.loc 1 0))], spread none 168 0 [(1, some [((proj 0 b1), .val), ((proj 1 b1), .val), ((proj 2 b1), .val), ((proj 3 b1), .val), ((proj 4 b1), .val), ((proj 5 b1), .val), ((proj 6 b1), .val), ((proj 7 b1), .val), ((proj 8 b1), .val), ((proj 9 b1), .val), ((proj 10 b1), .val), ((proj 11 b1), .val), ((proj 12 b1), .val), ((proj 13 b1), .val), ((proj 14 b1), .val), ((proj 15 b1), .val), ((proj 16 b1), .val), ((proj 17 b1), .val), ((proj 18 b1), .val), ((proj 19 b1), .val)])], []⟩
theorem eq_r17_own (R : Orc) (x0 : DV) : P_r17_own R x0 =
  (og (isAggN 20 x0) <|
  ob (R.p F_r17_bare [(.agg [(proj 0 x0), (proj 1 x0), (proj 2 x0), (proj 3 x0), (proj 4 x0), (proj 5 x0), (proj 6 x0), (proj 7 x0), (proj 8 x0), (proj 9 x0), (proj 10 x0), (proj 11 x0), (proj 12 x0), (proj 13 x0), (proj 14 x0), (proj 15 x0), (proj 16 x0), (proj 17 x0), (proj 18 x0), (proj 19 x0)])]) fun d1 =>
  ob (dExt 0 d1) fun d2 =>
  ob (dExt 1 d1) fun d3 =>
  og (isAggN 20 d2) <|
  ob (dLen (proj 19 x0)) fun d4 =>
  ob (dBin .neq d3 d4) fun d5 =>
  ogd d5
   (some (.bool false))
   (ob (R.p F_r17_flat [(.agg [(proj 0 d2), (proj 1 d2), (proj 2 d2), (proj 3 d2), (proj 4 d2), (proj 5 d2), (proj 6 d2), (proj 7 d2), (proj 8 d2), (proj 9 d2), (proj 10 d2), (proj 11 d2), (proj 12 d2), (proj 13 d2), (proj 14 d2), (proj 15 d2), (proj 16 d2), (proj 17 d2), (proj 18 d2), (proj 19 d2)]), (.agg [(proj 0 x0), (proj 1 x0), (proj 2 x0), (proj 3 x0), (proj 4 x0), (proj 5 x0), (proj 6 x0), (proj 7 x0), (proj 8 x0), (proj 9 x0), (proj 10 x0), (proj 11 x0), (proj 12 x0), (proj 13 x0), (proj 14 x0), (proj 15 x0), (proj 16 x0), (proj 17 x0), (proj 18 x0), (proj 19 x0)])]) fun d6 =>
   ob (dUn .not d6) fun d7 =>
   oif d7
    (some (.bool false))
    (P_r17_own_5h R (.int .i64 0) x0))
   none) := evP_of [] (by kernel_rfl)
theorem eq_r17_own_5h (R : Orc) (t5 : DV) (b1 : DV) : P_r17_own_5h R t5 b1 =
  (ob (dLen (proj 17 b1)) fun d1 =>
  ob (dBin .lss t5 d1) fun d2 =>
  oif d2
   (ob (dIdx 3 (proj 17 b1) t5) fun d3 =>
   ob (R.p F_r03_Right [(.agg [(proj 0 d3), (proj 1 d3), (proj 2 d3)])]) fun d4 =>
   ob (dUn .not d4) fun d5 =>
   oif d5
    (some (.bool false))
    (ob (dBin .add t5 (.int .i64 1)) fun d6 =>
    P_r17_own_5h R d6 b1))
   (P_r17_own_10h R (.int .i64 0) b1)) := headP_of [] (by kernel_rfl)
theorem eq_r17_own_10h (R : Orc) (t6 : DV) (b1 : DV) : P_r17_own_10h R t6 b1 =
  (ob (dLen (proj 10 b1)) fun d1 =>
  ob (dBin .lss t6 d1) fun d2 =>
  oif d2
   (ob (dIdx 1 (proj 10 b1) t6) fun d3 =>
   og (isLeaf d3) <|
   ob (dBin .lss d3 (.int .i64 0)) fun d4 =>
   ogd d4
    (some (.bool false))
    (ob (dIdx 1 (proj 10 b1) t6) fun d5 =>
    og (isLeaf d5) <|
    ob (dBin .gtr d5 (.int .i64 1048576)) fun d6 =>
    oif d6
     (some (.bool false))
     (ob (dBin .add t6 (.int .i64 1)) fun d7 =>
     P_r17_own_10h R d7 b1))
    none)
   (P_r17_own_15h R (.int .i64 0) b1)) := headP_of [] (by kernel_rfl)
set_option maxRecDepth 100000 in
theorem eq_r17_own_15h (R : Orc) (t7 : DV) (b1 : DV) : P_r17_own_15h R t7 b1 =
  (ob (dLen (proj 18 b1)) fun d1 =>
  ob (dBin .lss t7 d1) fun d2 =>
  oif d2
   (ob (dIdx 7 (proj 18 b1) t7) fun d3 =>
   ob (R.p F_r05_RightPat [(.agg [(proj 0 d3), (proj 1 d3), (proj 2 d3), (proj 3 d3), (proj 4 d3), (proj 5 d3), (proj 6 d3)])]) fun d4 =>
   ob (dUn .not d4) fun d5 =>
   oif d5
    (some (.bool false))
    (ob (dBin .add t7 (.int .i64 1)) fun d6 =>
    P_r17_own_15h R d6 b1))
   (ob (dBin .eql (proj 0 b1) (.int .i64 1)) fun d7 =>
   oif d7
    (ob (R.p F_r01_Name [(proj 3 b1)]) fun d8 =>
    some d8)
    (ob (dBin .eql (proj 0 b1) (.int .i64 11)) fun d9 =>
    oif d9
     (ob (R.p F_r01_Name [(proj 3 b1)]) fun d10 =>
     some d10)
     (ob (dBin .eql (proj 0 b1) (.int .i64 3)) fun d11 =>
     oif d11
      (ob (dBin .eql (proj 5 b1) (.int .i64 0)) fun d12 =>
      ogd d12
       (some (.bool true))
       (ob (dBin .eql (proj 5 b1) (.int .i64 1)) fun d13 =>
       some d13)
       none)
      (ob (dBin .eql (proj 0 b1) (.int .i64 4)) fun d14 =>
      oif d14
       (ob (dLenS (proj 6 b1)) fun d15 =>
       ob (dBin .leq d15 (.int .i64 200)) fun d16 =>
       some d16)
       (ob (dBin .eql (proj 0 b1) (.int .i64 7)) fun d17 =>
       oif d17
        (ob (R.p F_r03_Right [(.agg [(proj 11 b1), (proj 12 b1), (proj 13 b1)])]) fun d18 =>
        some d18)
        (ob (dBin .eql (proj 0 b1) (.int .i64 9)) fun d19 =>
        oif d19
         (ob (R.p F_r01_Name [(proj 3 b1)]) fun d20 =>
         ogd d20
          (ob (R.p F_r03_Right [(.agg [(proj 11 b1), (proj 12 b1), (proj 13 b1)])]) fun d21 =>
          some d21)
          (some (.bool false))
          none)
         (ob (dBin .eql (proj 0 b1) (.int .i64 12)) fun d22 =>
         oif d22
          (ob (R.p F_r01_Name [(proj 3 b1)]) fun d23 =>
          ogd d23
           (ob (R.p F_r01_Name [(proj 4 b1)]) fun d24 =>
           ogd d24
            (ob (R.p F_r03_Right [(.agg [(proj 11 b1), (proj 12 b1), (proj 13 b1)])]) fun d25 =>
            ogd d25
             (ob (R.p F_r03_Right [(.agg [(proj 14 b1), (proj 15 b1), (proj 16 b1)])]) fun d26 =>
             some d26)
             (some (.bool false))
             none)
            (some (.bool false))
            none)
           (some (.bool false))
           none)
          (ob (dBin .eql (proj 0 b1) (.int .i64 14)) fun d27 =>
          oif d27
           (ob (dLen (proj 18 b1)) fun d28 =>
           ob (dBin .gtr d28 (.int .i64 0)) fun d29 =>
           some d29)
           (ob (dBin .eql (proj 0 b1) (.int .i64 15)) fun d30 =>
           oif d30
            (ob (dBin .geq (proj 7 b1) (.int .i64 1)) fun d31 =>
            ogd d31
             (ob (dBin .leq (proj 7 b1) (.int .i64 7)) fun d32 =>
             some d32)
             (some (.bool false))
             none)
            (ob (dBin .eql (proj 0 b1) (.int .i64 16)) fun d33 =>
            oif d33
             (ob (dBin .geq (proj 8 b1) (.int .i64 0)) fun d34 =>
             ogd d34
              (ob (dBin .leq (proj 8 b1) (.int .i64 1048576)) fun d35 =>
              ogd d35
               (ob (R.p F_r03_Right [(.agg [(proj 11 b1), (proj 12 b1), (proj 13 b1)])]) fun d36 =>
               ogd d36
                (ob (R.p F_r03_Right [(.agg [(proj 14 b1), (proj 15 b1), (proj 16 b1)])]) fun d37 =>
                some d37)
                (some (.bool false))
                none)
               (some (.bool false))
               none)
              (some (.bool false))
              none)
             (some (.bool true))))))))))))) := headP_of [] (by kernel_rfl)
theorem call_r17_own (x0 : DV) {d : DV} (h : P_r17_own (run cfg) x0 = some d) : (run cfg).p F_r17_own [x0] = some d :=
  run_pure (fn := Try.f49) (c := code_r17_own) (by kernel_rfl) Try.func49 (by kernel_rfl) ((show _ = P_r17_own (run cfg) x0 by kernel_rfl).trans h)

/-! ### r17_bulk -/
noncomputable def code_r17_bulk : Code := Try.f50.body.getD .skip
noncomputable def P_r17_bulk (R : Orc) (x0 : Nat) (x1 : DV) (x2 : DV) (sg : List SObj) : Option (List DV × List SObj) := evP cfg R fl_r17_bulk (retR cfg.P Try.f50 sig_r17_bulk) [] code_r17_bulk (initSt Try.f50 [(.undef, (.ptr x0 0)), (x1, .val), (x2, .val)] sg)
noncomputable def P_r17_bulk_5h (R : Orc) (t0i : Nat) (t2 : DV) (t7 : DV) (t8 : DV) (b4 : DV) (sg : List SObj) : Option (List DV × List SObj) := headP cfg R fl_r17_bulk (retR cfg.P Try.f50 sig_r17_bulk) [true, true, true, false, true, false] code_r17_bulk ⟨spread .undef 200 0 [(2, t2), (7, t7), (8, t8)], spread .val 200 0 [(0, (.ptr t0i 0)), (4, (.loc 4 0)), (7, .own)], spread none 200 0 [(4, some [((proj 0 b4), .val), ((proj 1 b4), .val), ((proj 2 b4), .val), ((proj 3 b4), .val), ((proj 4 b4), .val), ((proj 5 b4), .val), ((proj 6 b4), .val), ((proj 7 b4), .val), ((proj 8 b4), .val), ((proj 9 b4), .val), ((proj 10 b4), .val), ((proj 11 b4), .val), ((proj 12 b4), .val), ((proj 13 b4), .val), ((proj 14 b4), .val), ((proj 15 b4), .val), ((proj 16 b4), .val), ((proj 17 b4), .val), ((proj 18 b4), .val), ((proj 19 b4), .val)])], sg⟩
noncomputable def P_r17_bulk_22 (R : Orc) (t0i : Nat) (t2 : DV) (t7 : DV) (t8 : DV) (t9 : DV) (b4 : DV) (sg : List SObj) : Option (List DV × List SObj) := evP cfg R fl_r17_bulk (retR cfg.P Try.f50 sig_r17_bulk) [true, true, true, false, true, false, false, true, false, false, true, true] code_r17_bulk ⟨spread .undef 200 0 [(2, t2), (7, t7), (8, t8), (9, t9)], spread .val 200 0 [(0, (.ptr t0i 0)), (4, (.loc 4 0)), (7, .own)], spread none 200 0 [(4, some [((proj 0 b4), .val), ((proj 1 b4), .val), ((proj 2 b4), .val), ((proj 3 b4), .val), ((proj 4 b4), .val), ((proj 5 b4), .val), ((proj 6 b4), .val), ((proj 7 b4), .val), ((proj 8 b4), .val), ((proj 9 b4), .val), ((proj 10 b4), .val), ((proj 11 b4), .val), ((proj 12 b4), .val), ((proj 13 b4), .val), ((proj 14 b4), .val), ((proj 15 b4), .val), ((proj 16 b4), .val), ((proj 17 b4), .val), ((proj 18 b4), .val), ((proj 19 b4), .val)])], sg⟩
noncomputable def P_r17_bulk_12 (R : Orc) (t0i : Nat) (t2 : DV) (t7 : DV) (t8 : DV) (t9 : DV) (b4 : DV) (sg : List SObj) : Option (List DV × List SObj) := evP cfg R fl_r17_bulk (retR cfg.P Try.f50 sig_r17_bulk) [true, true, true, false, true, false, false, true, false, false, true, false, false, true, true, true, true] code_r17_bulk ⟨spread .undef 200 0 [(2, t2), (7, t7), (8, t8), (9, t9)], spread .val 200 0 [(0, (.ptr t0i 0)), (4, (.loc 4 0)), (7, .own)], spread none 200 0 [(4, some [((proj 0 b4), .val), ((proj 1 b4), .val), ((proj 2 b4), .val), ((proj 3 b4), .val), ((proj 4 b4), .val), ((proj 5 b4), .val), ((proj 6 b4), .val), ((proj 7 b4), .val), ((proj 8 b4), .val), ((proj 9 b4), .val), ((proj 10 b4), .val), ((proj 11 b4), .val), ((proj 12 b4), .val), ((proj 13 b4), .val), ((proj 14 b4), .val), ((proj 15 b4), .val), ((proj 16 b4), .val), ((proj 17 b4), .val), ((proj 18 b4), .val), ((proj 19 b4), .val)])], sg⟩
noncomputable def P_r17_bulk_25h (R : Orc) (t0i : Nat) (t2 : DV) (t7 : DV) (t12 : DV) (t13 : DV) (b4 : DV) (sg : List SObj) : Option (List DV × List SObj) := headP cfg R fl_r17_bulk (retR cfg.P Try.f50 sig_r17_bulk) [true, true, true, true, true, false, true, false] code_r17_bulk ⟨spread .undef 200 0 [(2, t2), (7, t7), (12, t12), (13, t13)], spread .val 200 0 [(0, (.ptr t0i 0)), (4, (.loc 4 0))], spread none 200 0 [(4, some [((proj 0 b4), .val), ((proj 1 b4), .val), ((proj 2 b4), .val), ((proj 3 b4), .val), ((proj 4 b4), .val), ((proj 5 b4), .val), ((proj 6 b4), .val), ((proj 7 b4), .val), ((proj 8 b4), .val), ((proj 9 b4), .val), ((proj 10 b4), .val), ((proj 11 b4), .val), ((proj 12 b4), .val), ((proj 13 b4), .val), ((proj 14 b4), .val), ((proj 15 b4), .val), ((proj 16 b4), .val), ((proj 17 b4), .val), ((proj 18 b4), .val), ((proj 19 b4), .val)])], sg⟩
noncomputable def P_r17_bulk_19h (R : Orc) (t0i : Nat) (t2 : DV) (t7 : DV) (t8 : DV) (t9 : DV) (t10 : DV) (t11 : DV) (b4 : DV) (sg : List SObj) : Option (List DV × List SObj) := headP cfg R fl_r17_bulk (retR cfg.P Try.f50 sig_r17_bulk) [true, true, true, false, true, false, false, true, false, false, true, false, false, true, true, true, true, true, true, true, false, true, true, false] code_r17_bulk ⟨spread .undef 200 0 [(2, t2), (7, t7), (8, t8), (9, t9), (10, t10), (11, t11)], spread .val 200 0 [(0, (.ptr t0i 0)), (4, (.loc 4 0)), (7, .own)], spread none 200 0 [(4, some [((proj 0 b4), .val), ((proj 1 b4), .val), ((proj 2 b4), .val), ((proj 3 b4), .val), ((proj 4 b4), .val), ((proj 5 b4), .val), ((proj 6 b4), .val), ((proj 7 b4), .val), ((proj 8 b4), .val), ((proj 9 b4), .val), ((proj 10 b4), .val), ((proj 11 b4), .val), ((proj 12 b4), .val), ((proj 13 b4), .val), ((proj 14 b4), .val), ((proj 15 b4), .val), ((proj 16 b4), .val), ((proj 17 b4), .val), ((proj 18 b4), .val), ((proj 19 b4), .val)])], sg⟩
theorem eq_r17_bulk (R : Orc) (x0 : Nat) (x1 : DV) (x2 : DV) (sg : List SObj) : P_r17_bulk R x0 x1 x2 sg =
  (og (isAggN 20 x1) <|
  ob (sgBox sg x0) fun c1 =>
  ob (cellDat c1 0) fun d2 =>
  oif d2
   (some ([(.int .i64 1)], sg))
   (P_r17_bulk_5h R x0 x2 (.list 1 []) (.int .i64 0) x1 sg)) := evP_of [12, 22] (by kernel_rfl)
theorem eq_r17_bulk_5h (R : Orc) (t0i : Nat) (t2 : DV) (t7 : DV) (t8 : DV) (b4 : DV) (sg : List SObj) : P_r17_bulk_5h R t0i t2 t7 t8 b4 sg =
  (ob (dLen (proj 19 b4)) fun d1 =>
  ob (dBin .lss t8 d1) fun d2 =>
  oif d2
   (ob (dBin .eql (proj 0 b4) (.int .i64 9)) fun d3 =>
   oif d3
    (ob (R.p F_r03_Size [(.agg [(proj 11 b4), (proj 12 b4), (proj 13 b4)])]) fun d4 =>
    ob (R.r F_r16_Bulk_Of [(.undef, (.ptr t0i 0)), (d4, .val)] sg) fun q5 =>
    ob (R.p F_r17_more [t2, (proj 3 b4), (q5.1.getD 0 .undef)]) fun d6 =>
    P_r17_bulk_22 R t0i t2 t7 t8 d6 b4 q5.2)
    (ob (dBin .eql (proj 0 b4) (.int .i64 11)) fun d7 =>
    ogd d7
     (ob (dBin .eql t8 (.int .i64 1)) fun d8 =>
     oif d8
      (ob (dIdx 1 t7 (.int .i64 0)) fun d9 =>
      og (isLeaf d9) <|
      ob (R.p F_r17_more [t2, (proj 3 b4), d9]) fun d10 =>
      P_r17_bulk_22 R t0i t2 t7 t8 d10 b4 sg)
      (P_r17_bulk_12 R t0i t2 t7 t8 t2 b4 sg))
     (P_r17_bulk_12 R t0i t2 t7 t8 t2 b4 sg)
     none))
   (P_r17_bulk_25h R t0i t2 t7 (.int .i64 1) (.int .i64 0) b4 sg)) := headP_of [12, 22] (by kernel_rfl)
theorem eq_r17_bulk_22 (R : Orc) (t0i : Nat) (t2 : DV) (t7 : DV) (t8 : DV) (t9 : DV) (b4 : DV) (sg : List SObj) : P_r17_bulk_22 R t0i t2 t7 t8 t9 b4 sg =
  (ob (dIdx 20 (proj 19 b4) t8) fun d1 =>
  ob (R.r F_r17_bulk [(.undef, (.ptr t0i 0)), ((.agg [(proj 0 d1), (proj 1 d1), (proj 2 d1), (proj 3 d1), (proj 4 d1), (proj 5 d1), (proj 6 d1), (proj 7 d1), (proj 8 d1), (proj 9 d1), (proj 10 d1), (proj 11 d1), (proj 12 d1), (proj 13 d1), (proj 14 d1), (proj 15 d1), (proj 16 d1), (proj 17 d1), (proj 18 d1), (proj 19 d1)]), .val), (t9, .val)] sg) fun q2 =>
  og (isCell (q2.1.getD 0 .undef)) <|
  ob (dApp 1 t7 (.list 1 [(q2.1.getD 0 .undef)])) fun d3 =>
  ob (dBin .add t8 (.int .i64 1)) fun d4 =>
  P_r17_bulk_5h R t0i t2 d3 d4 b4 q2.2) := evP_of [12, 22] (by kernel_rfl)
set_option maxRecDepth 100000 in
theorem eq_r17_bulk_12 (R : Orc) (t0i : Nat) (t2 : DV) (t7 : DV) (t8 : DV) (t9 : DV) (b4 : DV) (sg : List SObj) : P_r17_bulk_12 R t0i t2 t7 t8 t9 b4 sg =
  (ob (dBin .eql (proj 0 b4) (.int .i64 12)) fun d1 =>
  oif d1
   (ob (R.p F_r03_Size [(.agg [(proj 11 b4), (proj 12 b4), (proj 13 b4)])]) fun d2 =>
   ob (R.p F_r03_Size [(.agg [(proj 14 b4), (proj 15 b4), (proj 16 b4)])]) fun d3 =>
   ob (dBin .add d2 d3) fun d4 =>
   ob (dBin .add d4 (.int .i64 1)) fun d5 =>
   ob (R.r F_r16_Bulk_Of [(.undef, (.ptr t0i 0)), (d5, .val)] sg) fun q6 =>
   ob (R.p F_r17_more [t2, (proj 3 b4), (q6.1.getD 0 .undef)]) fun d7 =>
   ob (dBin .eql t8 (.int .i64 0)) fun d8 =>
   oif d8
    (ob (R.p F_r03_Size [(.agg [(proj 11 b4), (proj 12 b4), (proj 13 b4)])]) fun d9 =>
    ob (R.r F_r16_Bulk_Of [(.undef, (.ptr t0i 0)), (d9, .val)] q6.2) fun q10 =>
    ob (R.p F_r17_more [d7, (proj 4 b4), (q10.1.getD 0 .undef)]) fun d11 =>
    P_r17_bulk_22 R t0i t2 t7 t8 d11 b4 q10.2)
    (P_r17_bulk_22 R t0i t2 t7 t8 d7 b4 q6.2))
   (ob (dBin .eql (proj 0 b4) (.int .i64 14)) fun d12 =>
   ogd d12
    (ob (dBin .gtr t8 (.int .i64 0)) fun d13 =>
    ogd d13
     (ob (dLen (proj 18 b4)) fun d14 =>
     ob (dBin .leq t8 d14) fun d15 =>
     oif d15
      (ob (dBin .sub t8 (.int .i64 1)) fun d16 =>
      ob (dIdx 7 (proj 18 b4) d16) fun d17 =>
      ob (R.p F_r05_Names [(.agg [(proj 0 d17), (proj 1 d17), (proj 2 d17), (proj 3 d17), (proj 4 d17), (proj 5 d17), (proj 6 d17)])]) fun d18 =>
      P_r17_bulk_19h R t0i t2 t7 t8 t9 d18 (.int .i64 0) b4 sg)
      (P_r17_bulk_22 R t0i t2 t7 t8 t9 b4 sg))
     (P_r17_bulk_22 R t0i t2 t7 t8 t9 b4 sg)
     none)
    (P_r17_bulk_22 R t0i t2 t7 t8 t9 b4 sg)
    none)) := evP_of [12, 22] (by kernel_rfl)
set_option maxRecDepth 100000 in
theorem eq_r17_bulk_25h (R : Orc) (t0i : Nat) (t2 : DV) (t7 : DV) (t12 : DV) (t13 : DV) (b4 : DV) (sg : List SObj) : P_r17_bulk_25h R t0i t2 t7 t12 t13 b4 sg =
  (ob (dLen t7) fun d1 =>
  ob (dBin .lss t13 d1) fun d2 =>
  oif d2
   (ob (dIdx 1 t7 t13) fun d3 =>
   og (isLeaf d3) <|
   ob (dMax t12 d3) fun d4 =>
   ob (dBin .add t13 (.int .i64 1)) fun d5 =>
   P_r17_bulk_25h R t0i t2 t7 d4 d5 b4 sg)
   (ob (dBin .eql (proj 0 b4) (.int .i64 1)) fun d6 =>
   oif d6
    (ob (R.r F_r16_Bulk_Named [(.undef, (.ptr t0i 0)), (t2, .val), ((proj 3 b4), .val), ((proj 17 b4), .val)] sg) fun q7 =>
    some ([(q7.1.getD 0 .undef)], q7.2))
    (ob (dBin .eql (proj 0 b4) (.int .i64 7)) fun d8 =>
    oif d8
     (ob (R.p F_r03_Size [(.agg [(proj 11 b4), (proj 12 b4), (proj 13 b4)])]) fun d9 =>
     ob (dBin .add d9 (.int .i64 1)) fun d10 =>
     ob (R.r F_r16_Bulk_Of [(.undef, (.ptr t0i 0)), (d10, .val)] sg) fun q11 =>
     some ([(q11.1.getD 0 .undef)], q11.2))
     (ob (dBin .eql (proj 0 b4) (.int .i64 6)) fun d12 =>
     oif d12
      (ob (dIdx 1 t7 (.int .i64 0)) fun d13 =>
      og (isLeaf d13) <|
      ob (dIdx 1 t7 (.int .i64 1)) fun d14 =>
      og (isLeaf d14) <|
      ob (dBin .add d13 d14) fun d15 =>
      ob (dBin .add d15 (.int .i64 1)) fun d16 =>
      ob (R.r F_r16_Bulk_Of [(.undef, (.ptr t0i 0)), (d16, .val)] sg) fun q17 =>
      some ([(q17.1.getD 0 .undef)], q17.2))
      (ob (dBin .eql (proj 0 b4) (.int .i64 8)) fun d18 =>
      oif d18
       (ob (dBin .add t12 (.int .i64 1)) fun d19 =>
       ob (R.r F_r16_Bulk_Of [(.undef, (.ptr t0i 0)), (d19, .val)] sg) fun q20 =>
       some ([(q20.1.getD 0 .undef)], q20.2))
       (ob (dBin .eql (proj 0 b4) (.int .i64 9)) fun d21 =>
       oif d21
        (ob (R.p F_r03_Size [(.agg [(proj 11 b4), (proj 12 b4), (proj 13 b4)])]) fun d22 =>
        ob (dBin .add d22 (.int .i64 1)) fun d23 =>
        ob (dIdx 1 t7 (.int .i64 0)) fun d24 =>
        og (isLeaf d24) <|
        ob (dBin .add d23 d24) fun d25 =>
        ob (R.r F_r16_Bulk_Of [(.undef, (.ptr t0i 0)), (d25, .val)] sg) fun q26 =>
        some ([(q26.1.getD 0 .undef)], q26.2))
        (ob (dBin .eql (proj 0 b4) (.int .i64 16)) fun d27 =>
        oif d27
         (ob (R.p F_r03_Size [(.agg [(proj 14 b4), (proj 15 b4), (proj 16 b4)])]) fun d28 =>
         ob (R.r F_r16_Bulk_Of [(.undef, (.ptr t0i 0)), (d28, .val)] sg) fun q29 =>
         some ([(q29.1.getD 0 .undef)], q29.2))
         (some ([t12], sg))))))))) := headP_of [12, 22] (by kernel_rfl)
theorem eq_r17_bulk_19h (R : Orc) (t0i : Nat) (t2 : DV) (t7 : DV) (t8 : DV) (t9 : DV) (t10 : DV) (t11 : DV) (b4 : DV) (sg : List SObj) : P_r17_bulk_19h R t0i t2 t7 t8 t9 t10 t11 b4 sg =
  (ob (dLen t10) fun d1 =>
  ob (dBin .lss t11 d1) fun d2 =>
  oif d2
   (ob (dIdx 1 t10 t11) fun d3 =>
   og (isLeaf d3) <|
   ob (dIdx 1 t7 (.int .i64 0)) fun d4 =>
   og (isLeaf d4) <|
   ob (R.p F_r17_more [t9, d3, d4]) fun d5 =>
   ob (dBin .add t11 (.int .i64 1)) fun d6 =>
   P_r17_bulk_19h R t0i t2 t7 t8 d5 t10 d6 b4 sg)
   (P_r17_bulk_22 R t0i t2 t7 t8 t9 b4 sg)) := headP_of [12, 22] (by kernel_rfl)
theorem call_r17_bulk (x0 : Nat) (x1 : DV) (x2 : DV) (sg : List SObj) {q : List DV × List SObj} (h : P_r17_bulk (run cfg) x0 x1 x2 sg = some q) : (run cfg).r F_r17_bulk [(.undef, (.ptr x0 0)), (x1, .val), (x2, .val)] sg = some q :=
  run_raw (s := sig_r17_bulk) (fn := Try.f50) (c := code_r17_bulk) (by kernel_rfl) Try.func50 (by kernel_rfl) ((show _ = P_r17_bulk (run cfg) x0 x1 x2 sg by kernel_rfl).trans h)

/-! ### l03_Heavy -/
noncomputable def code_l03_Heavy : Code := Try.f51.body.getD .skip
noncomputable def P_l03_Heavy (R : Orc) (x0 : DV) : Option DV := evP cfg R fl_l03_Heavy (retP cfg.P Try.f51) [] code_l03_Heavy (initSt Try.f51 [(x0, .val)] [])
noncomputable def P_l03_Heavy_3h (R : Orc) (t0 : DV) (t3 : DV) (t4 : DV) : Option DV := headP cfg R fl_l03_Heavy (retP cfg.P Try.f51) [true, true, false, true, false] code_l03_Heavy ⟨spread .undef 19 0 [(0, t0), (3, t3), (4, t4)], spread .val 19 0 [], spread none 19 0 [], []⟩
theorem eq_l03_Heavy (R : Orc) (x0 : DV) : P_l03_Heavy R x0 =
  (P_l03_Heavy_3h R x0 (.int .i64 0) (.int .i64 0)) := evP_of [] (by kernel_rfl)
theorem eq_l03_Heavy_3h (R : Orc) (t0 : DV) (t3 : DV) (t4 : DV) : P_l03_Heavy_3h R t0 t3 t4 =
  (ob (dLen t0) fun d1 =>
  ob (dBin .lss t4 d1) fun d2 =>
  oif d2
   (ob (dIdx 3 t0 t4) fun d3 =>
   ob (R.p F_l03_count [(.agg [(proj 0 d3), (proj 1 d3), (proj 2 d3)]), t3]) fun d4 =>
   ob (dBin .add t4 (.int .i64 1)) fun d5 =>
   P_l03_Heavy_3h R t0 d4 d5)
   (ob (dBin .gtr t3 (.int .i64 600)) fun d6 =>
   some d6)) := headP_of [] (by kernel_rfl)
theorem call_l03_Heavy (x0 : DV) {d : DV} (h : P_l03_Heavy (run cfg) x0 = some d) : (run cfg).p F_l03_Heavy [x0] = some d :=
  run_pure (fn := Try.f51) (c := code_l03_Heavy) (by kernel_rfl) Try.func51 (by kernel_rfl) ((show _ = P_l03_Heavy (run cfg) x0 by kernel_rfl).trans h)

/-! ### r08_Deep -/
noncomputable def code_r08_Deep : Code := Try.f52.body.getD .skip
noncomputable def P_r08_Deep (R : Orc) (x0 : DV) (x1 : DV) : Option DV := evP cfg R fl_r08_Deep (retP cfg.P Try.f52) [] code_r08_Deep (initSt Try.f52 [(x0, .val), (x1, .val)] [])
noncomputable def P_r08_Deep_4h (R : Orc) (t1 : DV) (t5 : DV) (b2 : DV) : Option DV := headP cfg R fl_r08_Deep (retP cfg.P Try.f52) [true, true, false, true, false] code_r08_Deep ⟨spread .undef 23 0 [(1, t1), (5, t5)], spread .val 23 0 [(2, (.loc 2 0))], spread none 23 0 [(2, some [((proj 0 b2), .val), ((proj 1 b2), .val), ((proj 2 b2), .val)])], []⟩
theorem eq_r08_Deep (R : Orc) (x0 : DV) (x1 : DV) : P_r08_Deep R x0 x1 =
  (og (isAggN 3 x0) <|
  ob (dBin .leq x1 (.int .i64 0)) fun d1 =>
  oif d1
   (some (.bool true))
   (P_r08_Deep_4h R x1 (.int .i64 0) x0)) := evP_of [] (by kernel_rfl)
theorem eq_r08_Deep_4h (R : Orc) (t1 : DV) (t5 : DV) (b2 : DV) : P_r08_Deep_4h R t1 t5 b2 =
  (ob (dLen (proj 2 b2)) fun d1 =>
  ob (dBin .lss t5 d1) fun d2 =>
  oif d2
   (ob (dIdx 3 (proj 2 b2) t5) fun d3 =>
   ob (dBin .sub t1 (.int .i64 1)) fun d4 =>
   ob (R.p F_r08_Deep [(.agg [(proj 0 d3), (proj 1 d3), (proj 2 d3)]), d4]) fun d5 =>
   oif d5
    (some (.bool true))
    (ob (dBin .add t5 (.int .i64 1)) fun d6 =>
    P_r08_Deep_4h R t1 d6 b2))
   (some (.bool false))) := headP_of [] (by kernel_rfl)
theorem call_r08_Deep (x0 : DV) (x1 : DV) {d : DV} (h : P_r08_Deep (run cfg) x0 x1 = some d) : (run cfg).p F_r08_Deep [x0, x1] = some d :=
  run_pure (fn := Try.f52) (c := code_r08_Deep) (by kernel_rfl) Try.func52 (by kernel_rfl) ((show _ = P_r08_Deep (run cfg) x0 x1 by kernel_rfl).trans h)

/-! ### r03_Vars -/
noncomputable def code_r03_Vars : Code := Try.f53.body.getD .skip
noncomputable def P_r03_Vars (R : Orc) (x0 : DV) : Option DV := evP cfg R fl_r03_Vars (retP cfg.P Try.f53) [] code_r03_Vars (initSt Try.f53 [(x0, .val)] [])
theorem eq_r03_Vars (R : Orc) (x0 : DV) : P_r03_Vars R x0 =
  (og (isAggN 3 x0) <|
  ob (R.r F_r03_vars [((.agg [(proj 0 x0), (proj 1 x0), (proj 2 x0)]), .val), ((.list 1 []), .own)] []) fun q1 =>
  some (q1.1.getD 0 .undef)) := evP_of [] (by kernel_rfl)
theorem call_r03_Vars (x0 : DV) {d : DV} (h : P_r03_Vars (run cfg) x0 = some d) : (run cfg).p F_r03_Vars [x0] = some d :=
  run_pure (fn := Try.f53) (c := code_r03_Vars) (by kernel_rfl) Try.func53 (by kernel_rfl) ((show _ = P_r03_Vars (run cfg) x0 by kernel_rfl).trans h)

/-! ### r03_Kids -/
noncomputable def code_r03_Kids : Code := Try.f54.body.getD .skip
noncomputable def P_r03_Kids (R : Orc) (x0 : DV) : Option DV := evP cfg R fl_r03_Kids (retP cfg.P Try.f54) [] code_r03_Kids (initSt Try.f54 [(x0, .val)] [])
theorem eq_r03_Kids (R : Orc) (x0 : DV) : P_r03_Kids R x0 =
  (ob (dBin .eql x0 (.int .i64 1)) fun d1 =>
  oif d1
   (some (.int .i64 0))
   (ob (dBin .eql x0 (.int .i64 2)) fun d2 =>
   oif d2
    (some (.int .i64 0))
    (ob (dBin .eql x0 (.int .i64 3)) fun d3 =>
    oif d3
     (some (.int .i64 0))
     (ob (dBin .eql x0 (.int .i64 4)) fun d4 =>
     oif d4
      (some (.int .i64 0))
      (ob (dBin .eql x0 (.int .i64 5)) fun d5 =>
      oif d5
       (some (.int .i64 0))
       (ob (dBin .eql x0 (.int .i64 6)) fun d6 =>
       oif d6
        (some (.int .i64 0))
        (ob (dBin .eql x0 (.int .i64 8)) fun d7 =>
        oif d7
         (some (.int .i64 1))
         (ob (dBin .eql x0 (.int .i64 7)) fun d8 =>
         oif d8
          (some (.int .i64 2))
          (ob (dBin .eql x0 (.int .i64 9)) fun d9 =>
          oif d9
           (some (.int .i64 2))
           (some (.int .i64 (-1)))))))))))) := evP_of [] (by kernel_rfl)
theorem call_r03_Kids (x0 : DV) {d : DV} (h : P_r03_Kids (run cfg) x0 = some d) : (run cfg).p F_r03_Kids [x0] = some d :=
  run_pure (fn := Try.f54) (c := code_r03_Kids) (by kernel_rfl) Try.func54 (by kernel_rfl) ((show _ = P_r03_Kids (run cfg) x0 by kernel_rfl).trans h)

/-! ### term_Check -/
noncomputable def code_term_Check : Code := Try.f55.body.getD .skip
noncomputable def P_term_Check (R : Orc) (x0 : DV) : Option DV := evP cfg R fl_term_Check (retP cfg.P Try.f55) [] code_term_Check (initSt Try.f55 [(x0, .val)] [])
theorem eq_term_Check (R : Orc) (x0 : DV) : P_term_Check R x0 =
  (og (isAggN 20 x0) <|
  ob (R.p F_term_right [(.agg [(proj 0 x0), (proj 1 x0), (proj 2 x0), (proj 3 x0), (proj 4 x0), (proj 5 x0), (proj 6 x0), (proj 7 x0), (proj 8 x0), (proj 9 x0), (proj 10 x0), (proj 11 x0), (proj 12 x0), (proj 13 x0), (proj 14 x0), (proj 15 x0), (proj 16 x0), (proj 17 x0), (proj 18 x0), (proj 19 x0)])]) fun d1 =>
  ob (dUn .not d1) fun d2 =>
  oif d2
   (some (.int .i64 1))
   (some (.int .i64 0))) := evP_of [] (by kernel_rfl)
theorem call_term_Check (x0 : DV) {d : DV} (h : P_term_Check (run cfg) x0 = some d) : (run cfg).p F_term_Check [x0] = some d :=
  run_pure (fn := Try.f55) (c := code_term_Check) (by kernel_rfl) Try.func55 (by kernel_rfl) ((show _ = P_term_Check (run cfg) x0 by kernel_rfl).trans h)

/-! ### check_scope_term -/
noncomputable def code_check_scope_term : Code := Try.f56.body.getD .skip
noncomputable def P_check_scope_term (R : Orc) (x0 : Nat) (x1 : DV) (x2 : DV) (sg : List SObj) : Option (List DV × List SObj) := evP cfg R fl_check_scope_term (retR cfg.P Try.f56 sig_check_scope_term) [] code_check_scope_term (initSt Try.f56 [(.undef, (.map x0)), (x1, .val), (x2, .val)] sg)
noncomputable def P_check_scope_term_8 (R : Orc) (b4 : DV) (b6_0 : DV) (b6_1 : DV) (b6_2 : DV) (sg : List SObj) : Option (List DV × List SObj) := evP cfg R fl_check_scope_term (retR cfg.P Try.f56 sig_check_scope_term) [true, false, true, false, true, true, true, false] code_check_scope_term ⟨spread .undef 120 0 [], spread .val 120 0 [(4, (.loc 4 0)), (6, (.loc 6 0))], spread none 120 0 [(4, some [((proj 0 b4), .val), ((proj 1 b4), .val), ((proj 2 b4), .val), ((proj 3 b4), .val), ((proj 4 b4), .val), ((proj 5 b4), .val), ((proj 6 b4), .val), ((proj 7 b4), .val), ((proj 8 b4), .val), ((proj 9 b4), .val), ((proj 10 b4), .val), ((proj 11 b4), .val), ((proj 12 b4), .val), ((proj 13 b4), .val), ((proj 14 b4), .val), ((proj 15 b4), .val), ((proj 16 b4), .val), ((proj 17 b4), .val), ((proj 18 b4), .val), ((proj 19 b4), .val)]), (6, some [(b6_0, .val), (b6_1, .val), (b6_2, .val)])], sg⟩
set_option maxRecDepth 100000 in
theorem eq_check_scope_term (R : Orc) (x0 : Nat) (x1 : DV) (x2 : DV) (sg : List SObj) : P_check_scope_term R x0 x1 x2 sg =
  (og (isAggN 20 x1) <|
  ob (dBin .eql (proj 0 x1) (.int .i64 1)) fun d1 =>
  oif d1
   (ob (R.r F_check_scope_name [(.undef, (.map x0)), ((.agg [(proj 0 x1), (proj 1 x1), (proj 2 x1), (proj 3 x1), (proj 4 x1), (proj 5 x1), (proj 6 x1), (proj 7 x1), (proj 8 x1), (proj 9 x1), (proj 10 x1), (proj 11 x1), (proj 12 x1), (proj 13 x1), (proj 14 x1), (proj 15 x1), (proj 16 x1), (proj 17 x1), (proj 18 x1), (proj 19 x1)]), .val), (x2, .val)] sg) fun q2 =>
   ob (dExt 0 (.tup q2.1)) fun d3 =>
   ob (dExt 1 (.tup q2.1)) fun d4 =>
   og (isAggN 3 d3) <|
   some ([(.agg [(proj 0 d3), (proj 1 d3), (proj 2 d3)]), d4], q2.2))
   (ob (dBin .eql (proj 0 x1) (.int .i64 2)) fun d5 =>
   oif d5
    (P_check_scope_term_8 R x1 (.int .i64 0) (.int .i64 0) (.list 3 []) sg)
    (ob (dBin .eql (proj 0 x1) (.int .i64 3)) fun d6 =>
    oif d6
     (P_check_scope_term_8 R x1 (.int .i64 0) (.int .i64 0) (.list 3 []) sg)
     (ob (dBin .eql (proj 0 x1) (.int .i64 4)) fun d7 =>
     oif d7
      (P_check_scope_term_8 R x1 (.int .i64 0) (.int .i64 0) (.list 3 []) sg)
      (ob (dBin .eql (proj 0 x1) (.int .i64 5)) fun d8 =>
      oif d8
       (P_check_scope_term_8 R x1 (.int .i64 0) (.int .i64 0) (.list 3 []) sg)
       (ob (dBin .eql (proj 0 x1) (.int .i64 7)) fun d9 =>
       oif d9
        (ob (R.r F_check_scope_has [(.undef, (.map x0)), ((.list 3 [(.agg [(proj 11 x1), (proj 12 x1), (proj 13 x1)])]), .val)] sg) fun q10 =>
        ob (dUn .not (q10.1.getD 0 .undef)) fun d11 =>
        oif d11
         (some ([(.agg [(.int .i64 0), (.int .i64 0), (.list 3 [])]), (.int .i64 6)], q10.2))
         (some ([(.agg [(.int .i64 8), (.int .i64 0), (.list 3 [(.agg [(proj 11 x1), (proj 12 x1), (proj 13 x1)])])]), (.int .i64 0)], q10.2)))
        (ob (dBin .eql (proj 0 x1) (.int .i64 9)) fun d12 =>
        oif d12
         (ob (R.r F_check_scope_has [(.undef, (.map x0)), ((.list 3 [(.agg [(proj 11 x1), (proj 12 x1), (proj 13 x1)])]), .val)] sg) fun q13 =>
         ob (dUn .not (q13.1.getD 0 .undef)) fun d14 =>
         oif d14
          (some ([(.agg [(.int .i64 0), (.int .i64 0), (.list 3 [])]), (.int .i64 6)], q13.2))
          (ob (dIdx 20 (proj 19 x1) (.int .i64 0)) fun d15 =>
          og (isCell (proj 3 x1)) <|
          ob (R.r F_check_with [(x2, .val), ((.list 5 [(.agg [(proj 3 x1), (proj 11 x1), (proj 12 x1), (proj 13 x1), (.list 1 [])])]), .val)] q13.2) fun q16 =>
          ob (R.r F_check_scope_term [(.undef, (.map x0)), ((.agg [(proj 0 d15), (proj 1 d15), (proj 2 d15), (proj 3 d15), (proj 4 d15), (proj 5 d15), (proj 6 d15), (proj 7 d15), (proj 8 d15), (proj 9 d15), (proj 10 d15), (proj 11 d15), (proj 12 d15), (proj 13 d15), (proj 14 d15), (proj 15 d15), (proj 16 d15), (proj 17 d15), (proj 18 d15), (proj 19 d15)]), .val), ((q16.1.getD 0 .undef), .val)] q16.2) fun q17 =>
          ob (dExt 0 (.tup q17.1)) fun d18 =>
          ob (dExt 1 (.tup q17.1)) fun d19 =>
          og (isAggN 3 d18) <|
          ob (dBin .neq d19 (.int .i64 0)) fun d20 =>
          oif d20
           (some ([(.agg [(.int .i64 0), (.int .i64 0), (.list 3 [])]), d19], q17.2))
           (ob (R.p F_check_fun [(.agg [(proj 11 x1), (proj 12 x1), (proj 13 x1)]), (.agg [(proj 0 d18), (proj 1 d18), (proj 2 d18)])]) fun d21 =>
           og (isAggN 3 d21) <|
           some ([(.agg [(proj 0 d21), (proj 1 d21), (proj 2 d21)]), (.int .i64 0)], q17.2))))
         (ob (dBin .eql (proj 0 x1) (.int .i64 11)) fun d22 =>
         oif d22
          (ob (R.r F_check_scope_let [(.undef, (.map x0)), ((.agg [(proj 0 x1), (proj 1 x1), (proj 2 x1), (proj 3 x1), (proj 4 x1), (proj 5 x1), (proj 6 x1), (proj 7 x1), (proj 8 x1), (proj 9 x1), (proj 10 x1), (proj 11 x1), (proj 12 x1), (proj 13 x1), (proj 14 x1), (proj 15 x1), (proj 16 x1), (proj 17 x1), (proj 18 x1), (proj 19 x1)]), .val), (x2, .val)] sg) fun q23 =>
          ob (dExt 0 (.tup q23.1)) fun d24 =>
          ob (dExt 1 (.tup q23.1)) fun d25 =>
          og (isAggN 3 d24) <|
          some ([(.agg [(proj 0 d24), (proj 1 d24), (proj 2 d24)]), d25], q23.2))
          (ob (dBin .eql (proj 0 x1) (.int .i64 12)) fun d26 =>
          oif d26
           (ob (R.r F_check_scope_rec [(.undef, (.map x0)), ((.agg [(proj 0 x1), (proj 1 x1), (proj 2 x1), (proj 3 x1), (proj 4 x1), (proj 5 x1), (proj 6 x1), (proj 7 x1), (proj 8 x1), (proj 9 x1), (proj 10 x1), (proj 11 x1), (proj 12 x1), (proj 13 x1), (proj 14 x1), (proj 15 x1), (proj 16 x1), (proj 17 x1), (proj 18 x1), (proj 19 x1)]), .val), (x2, .val)] sg) fun q27 =>
           ob (dExt 0 (.tup q27.1)) fun d28 =>
           ob (dExt 1 (.tup q27.1)) fun d29 =>
           og (isAggN 3 d28) <|
           some ([(.agg [(proj 0 d28), (proj 1 d28), (proj 2 d28)]), d29], q27.2))
           (ob (dBin .eql (proj 0 x1) (.int .i64 14)) fun d30 =>
           oif d30
            (ob (R.r F_check_scope_match [(.undef, (.map x0)), ((.agg [(proj 0 x1), (proj 1 x1), (proj 2 x1), (proj 3 x1), (proj 4 x1), (proj 5 x1), (proj 6 x1), (proj 7 x1), (proj 8 x1), (proj 9 x1), (proj 10 x1), (proj 11 x1), (proj 12 x1), (proj 13 x1), (proj 14 x1), (proj 15 x1), (proj 16 x1), (proj 17 x1), (proj 18 x1), (proj 19 x1)]), .val), (x2, .val)] sg) fun q31 =>
            ob (dExt 0 (.tup q31.1)) fun d32 =>
            ob (dExt 1 (.tup q31.1)) fun d33 =>
            og (isAggN 3 d32) <|
            some ([(.agg [(proj 0 d32), (proj 1 d32), (proj 2 d32)]), d33], q31.2))
            (ob (R.r F_check_scope_kids [(.undef, (.map x0)), ((.agg [(proj 0 x1), (proj 1 x1), (proj 2 x1), (proj 3 x1), (proj 4 x1), (proj 5 x1), (proj 6 x1), (proj 7 x1), (proj 8 x1), (proj 9 x1), (proj 10 x1), (proj 11 x1), (proj 12 x1), (proj 13 x1), (proj 14 x1), (proj 15 x1), (proj 16 x1), (proj 17 x1), (proj 18 x1), (proj 19 x1)]), .val), (x2, .val)] sg) fun q34 =>
            ob (dExt 0 (.tup q34.1)) fun d35 =>
            ob (dExt 1 (.tup q34.1)) fun d36 =>
            ob (dBin .neq d36 (.int .i64 0)) fun d37 =>
            oif d37
             (some ([(.agg [(.int .i64 0), (.int .i64 0), (.list 3 [])]), d36], q34.2))
             (ob (R.r F_check_scope_of [(.undef, (.map x0)), ((.agg [(proj 0 x1), (proj 1 x1), (proj 2 x1), (proj 3 x1), (proj 4 x1), (proj 5 x1), (proj 6 x1), (proj 7 x1), (proj 8 x1), (proj 9 x1), (proj 10 x1), (proj 11 x1), (proj 12 x1), (proj 13 x1), (proj 14 x1), (proj 15 x1), (proj 16 x1), (proj 17 x1), (proj 18 x1), (proj 19 x1)]), .val), (d35, .val)] q34.2) fun q38 =>
             ob (dExt 0 (.tup q38.1)) fun d39 =>
             ob (dExt 1 (.tup q38.1)) fun d40 =>
             og (isAggN 3 d39) <|
             some ([(.agg [(proj 0 d39), (proj 1 d39), (proj 2 d39)]), d40], q38.2))))))))))))) := evP_of [8] (by kernel_rfl)
theorem eq_check_scope_term_8 (R : Orc) (b4 : DV) (b6_0 : DV) (b6_1 : DV) (b6_2 : DV) (sg : List SObj) : P_check_scope_term_8 R b4 b6_0 b6_1 b6_2 sg =
  (ob (dBin .sub (proj 0 b4) (.int .i64 2)) fun d1 =>
  ob (dBin .add d1 (.int .i64 1)) fun d2 =>
  og (isCell d2) <|
  some ([(.agg [d2, (.int .i64 0), (.list 3 [])]), (.int .i64 0)], sg)) := evP_of [8] (by kernel_rfl)
theorem call_check_scope_term (x0 : Nat) (x1 : DV) (x2 : DV) (sg : List SObj) {q : List DV × List SObj} (h : P_check_scope_term (run cfg) x0 x1 x2 sg = some q) : (run cfg).r F_check_scope_term [(.undef, (.map x0)), (x1, .val), (x2, .val)] sg = some q :=
  run_raw (s := sig_check_scope_term) (fn := Try.f56) (c := code_check_scope_term) (by kernel_rfl) Try.func56 (by kernel_rfl) ((show _ = P_check_scope_term (run cfg) x0 x1 x2 sg by kernel_rfl).trans h)

/-! ### l19_cast -/
noncomputable def code_l19_cast : Code := Try.f57.body.getD .skip
noncomputable def P_l19_cast (R : Orc) (x0 : DV) (x1 : DV) (x2 : DV) : Option DV := evP cfg R fl_l19_cast (retP cfg.P Try.f57) [] code_l19_cast (initSt Try.f57 [(x0, .val), (x1, .val), (x2, .val)] [])
theorem eq_l19_cast (R : Orc) (x0 : DV) (x1 : DV) (x2 : DV) : P_l19_cast R x0 x1 x2 =
  (og (isAggN 20 x2) <|
  ob (R.p F_r03_Leaf [x0]) fun d1 =>
  ob (R.p F_r03_Leaf [x1]) fun d2 =>
  og (isAggN 3 d1) <|
  og (isAggN 3 d2) <|
  some (.agg [(.int .i64 16), (.int .i64 0), (.int .i64 0), (.str ⟨#[]⟩), (.str ⟨#[]⟩), (.int .i64 0), (.str ⟨#[]⟩), (.int .i64 0), (.int .i64 0), (.bool false), (.list 1 []), (proj 0 d1), (proj 1 d1), (proj 2 d1), (proj 0 d2), (proj 1 d2), (proj 2 d2), (.list 3 []), (.list 7 []), (.list 20 [(.agg [(proj 0 x2), (proj 1 x2), (proj 2 x2), (proj 3 x2), (proj 4 x2), (proj 5 x2), (proj 6 x2), (proj 7 x2), (proj 8 x2), (proj 9 x2), (proj 10 x2), (proj 11 x2), (proj 12 x2), (proj 13 x2), (proj 14 x2), (proj 15 x2), (proj 16 x2), (proj 17 x2), (proj 18 x2), (proj 19 x2)])])])) := evP_of [] (by kernel_rfl)
theorem call_l19_cast (x0 : DV) (x1 : DV) (x2 : DV) {d : DV} (h : P_l19_cast (run cfg) x0 x1 x2 = some d) : (run cfg).p F_l19_cast [x0, x1, x2] = some d :=
  run_pure (fn := Try.f57) (c := code_l19_cast) (by kernel_rfl) Try.func57 (by kernel_rfl) ((show _ = P_l19_cast (run cfg) x0 x1 x2 by kernel_rfl).trans h)

/-! ### scheme_Subst -/
noncomputable def code_scheme_Subst : Code := Try.f60.body.getD .skip
noncomputable def P_scheme_Subst (R : Orc) (x0 : DV) (x1 : DV) : Option DV := evP cfg R fl_scheme_Subst (retP cfg.P Try.f60) [] code_scheme_Subst (initSt Try.f60 [(x0, .val), (x1, .val)] [])
noncomputable def P_scheme_Subst_5h (R : Orc) (t1 : DV) (t16 : DV) (t17 : DV) (t18 : DV) (b2 : DV) (b4_0 : DV) (b4_1 : DV) (b4_2 : DV) (sg : List SObj) : Option DV := headP cfg R fl_scheme_Subst (retP cfg.P Try.f60) [true, true, true, false, true, false] code_scheme_Subst ⟨spread .undef 56 0 [(1, t1), (16, t16), (17, t17), (18, t18)], spread .val 56 0 [(2, (.loc 2 0)), (4, (.loc 4 0)), (6, (.map 0))], spread none 56 0 [(2, some [((proj 0 b2), .val), ((proj 1 b2), .val), ((proj 2 b2), .val)]), (4, some [(b4_0, .val), (b4_1, .val), (b4_2, .val)])], sg⟩
theorem eq_scheme_Subst (R : Orc) (x0 : DV) (x1 : DV) : P_scheme_Subst R x0 x1 =
  (og (isAggN 3 x0) <|
  ob (R.p F_typ_Check [(.agg [(proj 0 x0), (proj 1 x0), (proj 2 x0)])]) fun d1 =>
  ob (dBin .neq d1 (.int .i64 0)) fun d2 =>
  oif d2
   (some (.tup [(.agg [(.int .i64 0), (.int .i64 0), (.list 3 [])]), (.int .i64 1)]))
   (ob (dLen x1) fun d3 =>
   P_scheme_Subst_5h R x1 x1 d3 (.int .i64 0) x0 (.int .i64 0) (.int .i64 0) (.list 3 []) [.map false []])) := evP_of [] (by kernel_rfl)
set_option maxRecDepth 100000 in
theorem eq_scheme_Subst_5h (R : Orc) (t1 : DV) (t16 : DV) (t17 : DV) (t18 : DV) (b2 : DV) (b4_0 : DV) (b4_1 : DV) (b4_2 : DV) (sg : List SObj) : P_scheme_Subst_5h R t1 t16 t17 t18 b2 b4_0 b4_1 b4_2 sg =
  (ob (dBin .lss t18 t17) fun d1 =>
  oif d1
   (ob (dIdx 4 t16 t18) fun d2 =>
   ob (dBin .lss (proj 0 d2) (.int .i64 0)) fun d3 =>
   ogd d3
    (some (.tup [(.agg [(.int .i64 0), (.int .i64 0), (.list 3 [])]), (.int .i64 1)]))
    (ob (dBin .gtr (proj 0 d2) (.int .i64 1048576)) fun d4 =>
    ogd d4
     (some (.tup [(.agg [(.int .i64 0), (.int .i64 0), (.list 3 [])]), (.int .i64 1)]))
     (ob (R.p F_typ_Check [(.agg [(proj 1 d2), (proj 2 d2), (proj 3 d2)])]) fun d5 =>
     ob (dBin .neq d5 (.int .i64 0)) fun d6 =>
     oif d6
      (some (.tup [(.agg [(.int .i64 0), (.int .i64 0), (.list 3 [])]), (.int .i64 1)]))
      (og (isKey false (proj 0 d2) && true) <|
      ob (sgMap sg 0) fun m7 =>
      og (m7.1 == false) <|
      ob (dUn .not (.bool (mGet m7.2 (proj 0 d2)).isSome)) fun d8 =>
      oif d8
       (og (isKey false (proj 0 d2) && true && true) <|
       ob (sgMap sg 0) fun m9 =>
       og (m9.1 == false) <|
       ob (dBin .add t18 (.int .i64 1)) fun d10 =>
       P_scheme_Subst_5h R t1 t16 t17 d10 b2 b4_0 b4_1 b4_2 (sg.set 0 (.map false (mSet m9.2 (proj 0 d2) t18))))
       (ob (dBin .add t18 (.int .i64 1)) fun d11 =>
       P_scheme_Subst_5h R t1 t16 t17 d11 b2 b4_0 b4_1 b4_2 sg)))
     none)
    none)
   (ob (R.r F_scheme_put [((.agg [(proj 0 b2), (proj 1 b2), (proj 2 b2)]), .val), (t1, .val), (.undef, (.map 0))] sg) fun q12 =>
   og (isAggN 3 (q12.1.getD 0 .undef)) <|
   some (.tup [(.agg [(proj 0 (q12.1.getD 0 .undef)), (proj 1 (q12.1.getD 0 .undef)), (proj 2 (q12.1.getD 0 .undef))]), (.int .i64 0)]))) := headP_of [] (by kernel_rfl)
theorem call_scheme_Subst (x0 : DV) (x1 : DV) {d : DV} (h : P_scheme_Subst (run cfg) x0 x1 = some d) : (run cfg).p F_scheme_Subst [x0, x1] = some d :=
  run_pure (fn := Try.f60) (c := code_scheme_Subst) (by kernel_rfl) Try.func60 (by kernel_rfl) ((show _ = P_scheme_Subst (run cfg) x0 x1 by kernel_rfl).trans h)

/-! ### r05_RightPat -/
noncomputable def code_r05_RightPat : Code := Try.f74.body.getD .skip
noncomputable def P_r05_RightPat (R : Orc) (x0 : DV) : Option DV := evP cfg R fl_r05_RightPat (retP cfg.P Try.f74) [] code_r05_RightPat (initSt Try.f74 [(x0, .val)] [])
noncomputable def P_r05_RightPat_5h (R : Orc) (t3 : DV) (t4 : DV) : Option DV := headP cfg R fl_r05_RightPat (retP cfg.P Try.f74) [true, true, true, false, true, false] code_r05_RightPat ⟨spread .undef 24 0 [(3, t3), (4, t4)], spread .val 24 0 [], spread none 24 0 [], []⟩
theorem eq_r05_RightPat (R : Orc) (x0 : DV) : P_r05_RightPat R x0 =
  (og (isAggN 7 x0) <|
  ob (R.p F_r05_pat [(.agg [(proj 0 x0), (proj 1 x0), (proj 2 x0), (proj 3 x0), (proj 4 x0), (proj 5 x0), (proj 6 x0)])]) fun d1 =>
  ob (dUn .not d1) fun d2 =>
  oif d2
   (some (.bool false))
   (ob (R.p F_r05_Names [(.agg [(proj 0 x0), (proj 1 x0), (proj 2 x0), (proj 3 x0), (proj 4 x0), (proj 5 x0), (proj 6 x0)])]) fun d3 =>
   P_r05_RightPat_5h R d3 (.int .i64 0))) := evP_of [] (by kernel_rfl)
theorem eq_r05_RightPat_5h (R : Orc) (t3 : DV) (t4 : DV) : P_r05_RightPat_5h R t3 t4 =
  (ob (dLen t3) fun d1 =>
  ob (dBin .lss t4 d1) fun d2 =>
  oif d2
   (ob (dSlice 1 t3 none (some t4)) fun d3 =>
   ob (dIdx 1 t3 t4) fun d4 =>
   og (isLeaf d4) <|
   ob (R.p F_r05_Has [d3, d4]) fun d5 =>
   oif d5
    (some (.bool false))
    (ob (dBin .add t4 (.int .i64 1)) fun d6 =>
    P_r05_RightPat_5h R t3 d6))
   (some (.bool true))) := headP_of [] (by kernel_rfl)
theorem call_r05_RightPat (x0 : DV) {d : DV} (h : P_r05_RightPat (run cfg) x0 = some d) : (run cfg).p F_r05_RightPat [x0] = some d :=
  run_pure (fn := Try.f74) (c := code_r05_RightPat) (by kernel_rfl) Try.func74 (by kernel_rfl) ((show _ = P_r05_RightPat (run cfg) x0 by kernel_rfl).trans h)

/-! ### r05_names -/
noncomputable def code_r05_names : Code := Try.f75.body.getD .skip
noncomputable def P_r05_names (R : Orc) (x0 : DV) (x1 : DV) (sg : List SObj) : Option (List DV × List SObj) := evP cfg R fl_r05_names (retR cfg.P Try.f75 sig_r05_names) [] code_r05_names (initSt Try.f75 [(x0, .val), (x1, .own)] sg)
noncomputable def P_r05_names_4h (R : Orc) (t1 : DV) (t5 : DV) (b2 : DV) (sg : List SObj) : Option (List DV × List SObj) := headP cfg R fl_r05_names (retR cfg.P Try.f75 sig_r05_names) [true, true, false, true, false] code_r05_names ⟨spread .undef 29 0 [(1, t1), (5, t5)], spread .val 29 0 [(1, .own), (2, (.loc 2 0))], spread none 29 0 [(2, some [((proj 0 b2), .val), ((proj 1 b2), .val), ((proj 2 b2), .val), ((proj 3 b2), .val), ((proj 4 b2), .val), ((proj 5 b2), .val), ((proj 6 b2), .val)])], sg⟩
theorem eq_r05_names (R : Orc) (x0 : DV) (x1 : DV) (sg : List SObj) : P_r05_names R x0 x1 sg =
  (og (isAggN 7 x0) <|
  ob (dBin .eql (proj 0 x0) (.int .i64 2)) fun d1 =>
  oif d1
   (og (isCell (proj 3 x0)) <|
   ob (dApp 1 x1 (.list 1 [(proj 3 x0)])) fun d2 =>
   P_r05_names_4h R d2 (.int .i64 0) x0 sg)
   (P_r05_names_4h R x1 (.int .i64 0) x0 sg)) := evP_of [] (by kernel_rfl)
theorem eq_r05_names_4h (R : Orc) (t1 : DV) (t5 : DV) (b2 : DV) (sg : List SObj) : P_r05_names_4h R t1 t5 b2 sg =
  (ob (dLen (proj 6 b2)) fun d1 =>
  ob (dBin .lss t5 d1) fun d2 =>
  oif d2
   (ob (dIdx 7 (proj 6 b2) t5) fun d3 =>
   ob (R.r F_r05_names [((.agg [(proj 0 d3), (proj 1 d3), (proj 2 d3), (proj 3 d3), (proj 4 d3), (proj 5 d3), (proj 6 d3)]), .val), (t1, .own)] sg) fun q4 =>
   ob (dBin .add t5 (.int .i64 1)) fun d5 =>
   P_r05_names_4h R (q4.1.getD 0 .undef) d5 b2 q4.2)
   (some ([t1], sg))) := headP_of [] (by kernel_rfl)
theorem call_r05_names (x0 : DV) (x1 : DV) (sg : List SObj) {q : List DV × List SObj} (h : P_r05_names (run cfg) x0 x1 sg = some q) : (run cfg).r F_r05_names [(x0, .val), (x1, .own)] sg = some q :=
  run_raw (s := sig_r05_names) (fn := Try.f75) (c := code_r05_names) (by kernel_rfl) Try.func75 (by kernel_rfl) ((show _ = P_r05_names (run cfg) x0 x1 sg by kernel_rfl).trans h)

/-! ### tree_onePat -/
noncomputable def code_tree_onePat : Code := Try.f77.body.getD .skip
noncomputable def P_tree_onePat (R : Orc) (x0 : DV) : Option DV := evP cfg R fl_tree_onePat (retP cfg.P Try.f77) [] code_tree_onePat (initSt Try.f77 [(x0, .val)] [])
noncomputable def P_tree_onePat_24 (R : Orc) (t4 : DV) (b1 : DV) (b3_0 : DV) (b3_1 : DV) (b3_2 : DV) (b3_3 : DV) (b3_4 : DV) (b3_5 : DV) (b3_6 : DV) : Option DV := evP cfg R fl_tree_onePat (retP cfg.P Try.f77) [true, true, true] code_tree_onePat ⟨spread .undef 83 0 [(4, t4)], spread .val 83 0 [(1, (.loc 1 0)), (3, (.loc 3 0))], spread none 83 0 [(1, some [((proj 0 b1), .val), ((proj 1 b1), .val), ((proj 2 b1), .val), ((proj 3 b1), .val), ((proj 4 b1), .val), ((proj 5 b1), .val), ((proj 6 b1), .val)]), (3, some [(b3_0, .val), (b3_1, .val), (b3_2, .val), (b3_3, .val), (b3_4, .val), (b3_5, .val), (b3_6, .val)])], []⟩
set_option maxRecDepth 100000 in
theorem eq_tree_onePat (R : Orc) (x0 : DV) : P_tree_onePat R x0 =
  (og (isAggN 7 x0) <|
  og (isCell (proj 0 x0)) <|
  og (isCell (proj 6 x0)) <|
  ob (dBin .eql (proj 0 x0) (.int .i64 1)) fun d1 =>
  oif d1
   (P_tree_onePat_24 R (.int .i64 0) x0 (proj 0 x0) (proj 1 x0) (proj 2 x0) (.str ⟨#[]⟩) (.int .i64 0) (.str ⟨#[]⟩) (proj 6 x0))
   (ob (dBin .eql (proj 0 x0) (.int .i64 6)) fun d2 =>
   oif d2
    (P_tree_onePat_24 R (.int .i64 0) x0 (proj 0 x0) (proj 1 x0) (proj 2 x0) (.str ⟨#[]⟩) (.int .i64 0) (.str ⟨#[]⟩) (proj 6 x0))
    (ob (dBin .eql (proj 0 x0) (.int .i64 8)) fun d3 =>
    oif d3
     (P_tree_onePat_24 R (.int .i64 0) x0 (proj 0 x0) (proj 1 x0) (proj 2 x0) (.str ⟨#[]⟩) (.int .i64 0) (.str ⟨#[]⟩) (proj 6 x0))
     (ob (dBin .eql (proj 0 x0) (.int .i64 2)) fun d4 =>
     oif d4
      (og (isCell (proj 3 x0)) <|
      ob (R.p F_word_Name [(proj 3 x0)]) fun d5 =>
      ob (dUn .not d5) fun d6 =>
      oif d6
       (some (.bool false))
       (P_tree_onePat_24 R (.int .i64 0) x0 (proj 0 x0) (proj 1 x0) (proj 2 x0) (proj 3 x0) (.int .i64 0) (.str ⟨#[]⟩) (proj 6 x0)))
      (ob (dBin .eql (proj 0 x0) (.int .i64 3)) fun d7 =>
      oif d7
       (og (isCell (proj 4 x0)) <|
       P_tree_onePat_24 R (.int .i64 0) x0 (proj 0 x0) (proj 1 x0) (proj 2 x0) (.str ⟨#[]⟩) (proj 4 x0) (.str ⟨#[]⟩) (proj 6 x0))
       (ob (dBin .eql (proj 0 x0) (.int .i64 4)) fun d8 =>
       oif d8
        (og (isCell (proj 4 x0)) <|
        ob (dBin .neq (proj 4 x0) (.int .i64 0)) fun d9 =>
        ogd d9
         (ob (dBin .neq (proj 4 x0) (.int .i64 1)) fun d10 =>
         oif d10
          (some (.bool false))
          (P_tree_onePat_24 R (.int .i64 0) x0 (proj 0 x0) (proj 1 x0) (proj 2 x0) (.str ⟨#[]⟩) (proj 4 x0) (.str ⟨#[]⟩) (proj 6 x0)))
         (P_tree_onePat_24 R (.int .i64 0) x0 (proj 0 x0) (proj 1 x0) (proj 2 x0) (.str ⟨#[]⟩) (proj 4 x0) (.str ⟨#[]⟩) (proj 6 x0))
         none)
        (ob (dBin .eql (proj 0 x0) (.int .i64 5)) fun d11 =>
        oif d11
         (og (isCell (proj 5 x0)) <|
         ob (dLenS (proj 5 x0)) fun d12 =>
         ob (dBin .gtr d12 (.int .i64 200)) fun d13 =>
         oif d13
          (some (.bool false))
          (P_tree_onePat_24 R (.int .i64 0) x0 (proj 0 x0) (proj 1 x0) (proj 2 x0) (.str ⟨#[]⟩) (.int .i64 0) (proj 5 x0) (proj 6 x0)))
         (ob (dBin .eql (proj 0 x0) (.int .i64 7)) fun d14 =>
         oif d14
          (P_tree_onePat_24 R (.int .i64 2) x0 (proj 0 x0) (proj 1 x0) (proj 2 x0) (.str ⟨#[]⟩) (.int .i64 0) (.str ⟨#[]⟩) (proj 6 x0))
          (ob (dBin .eql (proj 0 x0) (.int .i64 9)) fun d15 =>
          oif d15
           (P_tree_onePat_24 R (.int .i64 2) x0 (proj 0 x0) (proj 1 x0) (proj 2 x0) (.str ⟨#[]⟩) (.int .i64 0) (.str ⟨#[]⟩) (proj 6 x0))
           (some (.bool false))))))))))) := evP_of [24] (by kernel_rfl)
set_option maxRecDepth 100000 in
theorem eq_tree_onePat_24 (R : Orc) (t4 : DV) (b1 : DV) (b3_0 : DV) (b3_1 : DV) (b3_2 : DV) (b3_3 : DV) (b3_4 : DV) (b3_5 : DV) (b3_6 : DV) : P_tree_onePat_24 R t4 b1 b3_0 b3_1 b3_2 b3_3 b3_4 b3_5 b3_6 =
  (ob (dLen (proj 6 b1)) fun d1 =>
  ob (dBin .eql d1 t4) fun d2 =>
  ogd d2
   (ob (dBin .eql b3_3 (proj 3 b1)) fun d3 =>
   ogd d3
    (ob (dBin .eql b3_4 (proj 4 b1)) fun d4 =>
    ogd d4
     (ob (dBin .eql b3_5 (proj 5 b1)) fun d5 =>
     some d5)
     (some (.bool false))
     none)
    (some (.bool false))
    none)
   (some (.bool false))
   none) := evP_of [24] (by kernel_rfl)
theorem call_tree_onePat (x0 : DV) {d : DV} (h : P_tree_onePat (run cfg) x0 = some d) : (run cfg).p F_tree_onePat [x0] = some d :=
  run_pure (fn := Try.f77) (c := code_tree_onePat) (by kernel_rfl) Try.func77 (by kernel_rfl) ((show _ = P_tree_onePat (run cfg) x0 by kernel_rfl).trans h)

/-! ### l17_light -/
noncomputable def code_l17_light : Code := Try.f91.body.getD .skip
noncomputable def P_l17_light (R : Orc) (x0 : DV) : Option DV := evP cfg R fl_l17_light (retP cfg.P Try.f91) [] code_l17_light (initSt Try.f91 [(x0, .val)] [])
theorem eq_l17_light (R : Orc) (x0 : DV) : P_l17_light R x0 =
  (og (isAggN 3 x0) <|
  ob (R.p F_l11_Small [(.list 3 [(.agg [(proj 0 x0), (proj 1 x0), (proj 2 x0)])])]) fun d1 =>
  ogd d1
   (ob (R.p F_r03_Size [(.agg [(proj 0 x0), (proj 1 x0), (proj 2 x0)])]) fun d2 =>
   ob (dBin .leq d2 (.int .i64 60)) fun d3 =>
   some d3)
   (some (.bool false))
   none) := evP_of [] (by kernel_rfl)
theorem call_l17_light (x0 : DV) {d : DV} (h : P_l17_light (run cfg) x0 = some d) : (run cfg).p F_l17_light [x0] = some d :=
  run_pure (fn := Try.f91) (c := code_l17_light) (by kernel_rfl) Try.func91 (by kernel_rfl) ((show _ = P_l17_light (run cfg) x0 by kernel_rfl).trans h)

/-! ### l17_weighPat -/
noncomputable def code_l17_weighPat : Code := Try.f92.body.getD .skip
noncomputable def P_l17_weighPat (R : Orc) (x0 : DV) (x1 : DV) : Option DV := evP cfg R fl_l17_weighPat (retP cfg.P Try.f92) [] code_l17_weighPat (initSt Try.f92 [(x0, .val), (x1, .val)] [])
noncomputable def P_l17_weighPat_5h (R : Orc) (t1 : DV) (t5 : DV) (b2 : DV) : Option DV := headP cfg R fl_l17_weighPat (retP cfg.P Try.f92) [true, true, true, false, true, false] code_l17_weighPat ⟨spread .undef 37 0 [(1, t1), (5, t5)], spread .val 37 0 [(2, (.loc 2 0))], spread none 37 0 [(2, some [((proj 0 b2), .val), ((proj 1 b2), .val), ((proj 2 b2), .val), ((proj 3 b2), .val), ((proj 4 b2), .val), ((proj 5 b2), .val), ((proj 6 b2), .val)])], []⟩
theorem eq_l17_weighPat (R : Orc) (x0 : DV) (x1 : DV) : P_l17_weighPat R x0 x1 =
  (og (isAggN 7 x0) <|
  ob (dLenS (proj 5 x0)) fun d1 =>
  ob (dBin .gtr d1 (.int .i64 300)) fun d2 =>
  ogd d2
   (some (.int .i64 501))
   (ob (dLenS (proj 3 x0)) fun d3 =>
   ob (dBin .gtr d3 (.int .i64 300)) fun d4 =>
   oif d4
    (some (.int .i64 501))
    (ob (dBin .add x1 (.int .i64 1)) fun d5 =>
    P_l17_weighPat_5h R d5 (.int .i64 0) x0))
   none) := evP_of [] (by kernel_rfl)
theorem eq_l17_weighPat_5h (R : Orc) (t1 : DV) (t5 : DV) (b2 : DV) : P_l17_weighPat_5h R t1 t5 b2 =
  (ob (dLen (proj 6 b2)) fun d1 =>
  ob (dBin .lss t5 d1) fun d2 =>
  ogd d2
   (ob (dBin .leq t1 (.int .i64 500)) fun d3 =>
   oif d3
    (ob (dIdx 7 (proj 6 b2) t5) fun d4 =>
    ob (R.p F_l17_weighPat [(.agg [(proj 0 d4), (proj 1 d4), (proj 2 d4), (proj 3 d4), (proj 4 d4), (proj 5 d4), (proj 6 d4)]), t1]) fun d5 =>
    ob (dBin .add t5 (.int .i64 1)) fun d6 =>
    P_l17_weighPat_5h R d5 d6 b2)
    (some t1))
   (some t1)
   none) := headP_of [] (by kernel_rfl)
theorem call_l17_weighPat (x0 : DV) (x1 : DV) {d : DV} (h : P_l17_weighPat (run cfg) x0 x1 = some d) : (run cfg).p F_l17_weighPat [x0, x1] = some d :=
  run_pure (fn := Try.f92) (c := code_l17_weighPat) (by kernel_rfl) Try.func92 (by kernel_rfl) ((show _ = P_l17_weighPat (run cfg) x0 x1 by kernel_rfl).trans h)

end Go.Su
