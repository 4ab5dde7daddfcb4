/-
  Equations of the program's functions: by program.
-/
import Derived.Test.YtgccmhlmdnimjaaGreatP5
namespace Go.Su
open Go.Proofs
set_option linter.unusedVariables false

/-! ### check_scope_term -/
noncomputable def code_check_scope_term : Code := Tryz.f67.body.getD .skip
noncomputable def P_check_scope_term (R : Orc) (x0 : Nat) (x1 : DV) (x2 : DV) (sg : List SObj) : Option (List DV × List SObj) := evP cfg R fl_check_scope_term (retR cfg.P Tryz.f67 sig_check_scope_term) [] code_check_scope_term (initSt Tryz.f67 [(.undef, (.map x0)), (x1, .val), (x2, .val)] sg)
noncomputable def P_check_scope_term_8 (R : Orc) (b4 : DV) (b6_0 : DV) (b6_1 : DV) (b6_2 : DV) (sg : List SObj) : Option (List DV × List SObj) := evP cfg R fl_check_scope_term (retR cfg.P Tryz.f67 sig_check_scope_term) [true, false, true, false, true, true, true, false] code_check_scope_term ⟨spread .undef 120 0 [], spread .val 120 0 [(4, (.loc 4 0)), (6, (.loc 6 0))], spread none 120 0 [(4, some [((proj 0 b4), .val), ((proj 1 b4), .val), ((proj 2 b4), .val), ((proj 3 b4), .val), ((proj 4 b4), .val), ((proj 5 b4), .val), ((proj 6 b4), .val), ((proj 7 b4), .val), ((proj 8 b4), .val), ((proj 9 b4), .val), ((proj 10 b4), .val), ((proj 11 b4), .val), ((proj 12 b4), .val), ((proj 13 b4), .val), ((proj 14 b4), .val), ((proj 15 b4), .val), ((proj 16 b4), .val), ((proj 17 b4), .val), ((proj 18 b4), .val), ((proj 19 b4), .val)]), (6, some [(b6_0, .val), (b6_1, .val), (b6_2, .val)])], sg⟩
set_option maxRecDepth 100000 in
theorem eq_check_scope_term (R : Orc) (x0 : Nat) (x1 : DV) (x2 : DV) (sg : List SObj) : P_check_scope_term R x0 x1 x2 sg =
  (og (isAggN 20 x1) <|
  ob (dBin .eql (proj 0 x1) (.int .i64 1)) fun d1 =>
  oif d1
   (ob (R.r F_check_scope_name [(.undef, (.map x0)), ((.agg [(proj 0 x1), (proj 1 x1), (proj 2 x1), (proj 3 x1), (proj 4 x1), (proj 5 x1), (proj 6 x1), (proj 7 x1), (proj 8 x1), (proj 9 x1), (proj 10 x1), (proj 11 x1), (proj 12 x1), (proj 13 x1), (proj 14 x1), (proj 15 x1), (proj 16 x1), (proj 17 x1), (proj 18 x1), (proj 19 x1)]), .val), (x2, .val)] sg) fun q2 =>
   ob (dExt 0 (.tup q2.1)) fun d3 =>
   ob (dExt 1 (.tup q2.1)) fun d4 =>
   og (isAggN 3 d3) <|
   some ([(.agg [(proj 0 d3), (proj 1 d3), (proj 2 d3)]), d4], q2.2))
   (ob (dBin .eql (proj 0 x1) (.int .i64 2)) fun d5 =>
   oif d5
    (P_check_scope_term_8 R x1 (.int .i64 0) (.int .i64 0) (.list 3 []) sg)
    (ob (dBin .eql (proj 0 x1) (.int .i64 3)) fun d6 =>
    oif d6
     (P_check_scope_term_8 R x1 (.int .i64 0) (.int .i64 0) (.list 3 []) sg)
     (ob (dBin .eql (proj 0 x1) (.int .i64 4)) fun d7 =>
     oif d7
      (P_check_scope_term_8 R x1 (.int .i64 0) (.int .i64 0) (.list 3 []) sg)
      (ob (dBin .eql (proj 0 x1) (.int .i64 5)) fun d8 =>
      oif d8
       (P_check_scope_term_8 R x1 (.int .i64 0) (.int .i64 0) (.list 3 []) sg)
       (ob (dBin .eql (proj 0 x1) (.int .i64 7)) fun d9 =>
       oif d9
        (ob (R.r F_check_scope_has [(.undef, (.map x0)), ((.list 3 [(.agg [(proj 11 x1), (proj 12 x1), (proj 13 x1)])]), .val)] sg) fun q10 =>
        ob (dUn .not (q10.1.getD 0 .undef)) fun d11 =>
        oif d11
         (some ([(.agg [(.int .i64 0), (.int .i64 0), (.list 3 [])]), (.int .i64 6)], q10.2))
         (some ([(.agg [(.int .i64 8), (.int .i64 0), (.list 3 [(.agg [(proj 11 x1), (proj 12 x1), (proj 13 x1)])])]), (.int .i64 0)], q10.2)))
        (ob (dBin .eql (proj 0 x1) (.int .i64 9)) fun d12 =>
        oif d12
         (ob (R.r F_check_scope_has [(.undef, (.map x0)), ((.list 3 [(.agg [(proj 11 x1), (proj 12 x1), (proj 13 x1)])]), .val)] sg) fun q13 =>
         ob (dUn .not (q13.1.getD 0 .undef)) fun d14 =>
         oif d14
          (some ([(.agg [(.int .i64 0), (.int .i64 0), (.list 3 [])]), (.int .i64 6)], q13.2))
          (ob (dIdx 20 (proj 19 x1) (.int .i64 0)) fun d15 =>
          og (isCell (proj 3 x1)) <|
          ob (R.r F_check_with [(x2, .val), ((.list 5 [(.agg [(proj 3 x1), (proj 11 x1), (proj 12 x1), (proj 13 x1), (.list 1 [])])]), .val)] q13.2) fun q16 =>
          ob (R.r F_check_scope_term [(.undef, (.map x0)), ((.agg [(proj 0 d15), (proj 1 d15), (proj 2 d15), (proj 3 d15), (proj 4 d15), (proj 5 d15), (proj 6 d15), (proj 7 d15), (proj 8 d15), (proj 9 d15), (proj 10 d15), (proj 11 d15), (proj 12 d15), (proj 13 d15), (proj 14 d15), (proj 15 d15), (proj 16 d15), (proj 17 d15), (proj 18 d15), (proj 19 d15)]), .val), ((q16.1.getD 0 .undef), .val)] q16.2) fun q17 =>
          ob (dExt 0 (.tup q17.1)) fun d18 =>
          ob (dExt 1 (.tup q17.1)) fun d19 =>
          og (isAggN 3 d18) <|
          ob (dBin .neq d19 (.int .i64 0)) fun d20 =>
          oif d20
           (some ([(.agg [(.int .i64 0), (.int .i64 0), (.list 3 [])]), d19], q17.2))
           (ob (R.p F_check_fun [(.agg [(proj 11 x1), (proj 12 x1), (proj 13 x1)]), (.agg [(proj 0 d18), (proj 1 d18), (proj 2 d18)])]) fun d21 =>
           og (isAggN 3 d21) <|
           some ([(.agg [(proj 0 d21), (proj 1 d21), (proj 2 d21)]), (.int .i64 0)], q17.2))))
         (ob (dBin .eql (proj 0 x1) (.int .i64 11)) fun d22 =>
         oif d22
          (ob (R.r F_check_scope_let [(.undef, (.map x0)), ((.agg [(proj 0 x1), (proj 1 x1), (proj 2 x1), (proj 3 x1), (proj 4 x1), (proj 5 x1), (proj 6 x1), (proj 7 x1), (proj 8 x1), (proj 9 x1), (proj 10 x1), (proj 11 x1), (proj 12 x1), (proj 13 x1), (proj 14 x1), (proj 15 x1), (proj 16 x1), (proj 17 x1), (proj 18 x1), (proj 19 x1)]), .val), (x2, .val)] sg) fun q23 =>
          ob (dExt 0 (.tup q23.1)) fun d24 =>
          ob (dExt 1 (.tup q23.1)) fun d25 =>
          og (isAggN 3 d24) <|
          some ([(.agg [(proj 0 d24), (proj 1 d24), (proj 2 d24)]), d25], q23.2))
          (ob (dBin .eql (proj 0 x1) (.int .i64 12)) fun d26 =>
          oif d26
           (ob (R.r F_check_scope_rec [(.undef, (.map x0)), ((.agg [(proj 0 x1), (proj 1 x1), (proj 2 x1), (proj 3 x1), (proj 4 x1), (proj 5 x1), (proj 6 x1), (proj 7 x1), (proj 8 x1), (proj 9 x1), (proj 10 x1), (proj 11 x1), (proj 12 x1), (proj 13 x1), (proj 14 x1), (proj 15 x1), (proj 16 x1), (proj 17 x1), (proj 18 x1), (proj 19 x1)]), .val), (x2, .val)] sg) fun q27 =>
           ob (dExt 0 (.tup q27.1)) fun d28 =>
           ob (dExt 1 (.tup q27.1)) fun d29 =>
           og (isAggN 3 d28) <|
           some ([(.agg [(proj 0 d28), (proj 1 d28), (proj 2 d28)]), d29], q27.2))
           (ob (dBin .eql (proj 0 x1) (.int .i64 14)) fun d30 =>
           oif d30
            (ob (R.r F_check_scope_match [(.undef, (.map x0)), ((.agg [(proj 0 x1), (proj 1 x1), (proj 2 x1), (proj 3 x1), (proj 4 x1), (proj 5 x1), (proj 6 x1), (proj 7 x1), (proj 8 x1), (proj 9 x1), (proj 10 x1), (proj 11 x1), (proj 12 x1), (proj 13 x1), (proj 14 x1), (proj 15 x1), (proj 16 x1), (proj 17 x1), (proj 18 x1), (proj 19 x1)]), .val), (x2, .val)] sg) fun q31 =>
            ob (dExt 0 (.tup q31.1)) fun d32 =>
            ob (dExt 1 (.tup q31.1)) fun d33 =>
            og (isAggN 3 d32) <|
            some ([(.agg [(proj 0 d32), (proj 1 d32), (proj 2 d32)]), d33], q31.2))
            (ob (R.r F_check_scope_kids [(.undef, (.map x0)), ((.agg [(proj 0 x1), (proj 1 x1), (proj 2 x1), (proj 3 x1), (proj 4 x1), (proj 5 x1), (proj 6 x1), (proj 7 x1), (proj 8 x1), (proj 9 x1), (proj 10 x1), (proj 11 x1), (proj 12 x1), (proj 13 x1), (proj 14 x1), (proj 15 x1), (proj 16 x1), (proj 17 x1), (proj 18 x1), (proj 19 x1)]), .val), (x2, .val)] sg) fun q34 =>
            ob (dExt 0 (.tup q34.1)) fun d35 =>
            ob (dExt 1 (.tup q34.1)) fun d36 =>
            ob (dBin .neq d36 (.int .i64 0)) fun d37 =>
            oif d37
             (some ([(.agg [(.int .i64 0), (.int .i64 0), (.list 3 [])]), d36], q34.2))
             (ob (R.r F_check_scope_of [(.undef, (.map x0)), ((.agg [(proj 0 x1), (proj 1 x1), (proj 2 x1), (proj 3 x1), (proj 4 x1), (proj 5 x1), (proj 6 x1), (proj 7 x1), (proj 8 x1), (proj 9 x1), (proj 10 x1), (proj 11 x1), (proj 12 x1), (proj 13 x1), (proj 14 x1), (proj 15 x1), (proj 16 x1), (proj 17 x1), (proj 18 x1), (proj 19 x1)]), .val), (d35, .val)] q34.2) fun q38 =>
             ob (dExt 0 (.tup q38.1)) fun d39 =>
             ob (dExt 1 (.tup q38.1)) fun d40 =>
             og (isAggN 3 d39) <|
             some ([(.agg [(proj 0 d39), (proj 1 d39), (proj 2 d39)]), d40], q38.2))))))))))))) := evP_of [8] (by kernel_rfl)
theorem eq_check_scope_term_8 (R : Orc) (b4 : DV) (b6_0 : DV) (b6_1 : DV) (b6_2 : DV) (sg : List SObj) : P_check_scope_term_8 R b4 b6_0 b6_1 b6_2 sg =
  (ob (dBin .sub (proj 0 b4) (.int .i64 2)) fun d1 =>
  ob (dBin .add d1 (.int .i64 1)) fun d2 =>
  og (isCell d2) <|
  some ([(.agg [d2, (.int .i64 0), (.list 3 [])]), (.int .i64 0)], sg)) := evP_of [8] (by kernel_rfl)
theorem call_check_scope_term (x0 : Nat) (x1 : DV) (x2 : DV) (sg : List SObj) {q : List DV × List SObj} (h : P_check_scope_term (run cfg) x0 x1 x2 sg = some q) : (run cfg).r F_check_scope_term [(.undef, (.map x0)), (x1, .val), (x2, .val)] sg = some q :=
  run_raw (s := sig_check_scope_term) (fn := Tryz.f67) (c := code_check_scope_term) (by kernel_rfl) Tryz.func67 (by kernel_rfl) ((show _ = P_check_scope_term (run cfg) x0 x1 x2 sg by kernel_rfl).trans h)

/-! ### r17_own -/
noncomputable def code_r17_own : Code := Tryz.f68.body.getD .skip
noncomputable def P_r17_own (R : Orc) (x0 : DV) : Option DV := evP cfg R fl_r17_own (retP cfg.P Tryz.f68) [] code_r17_own (initSt Tryz.f68 [(x0, .val)] [])
noncomputable def P_r17_own_5h (R : Orc) (t5 : DV) (b1 : DV) : Option DV := headP cfg R fl_r17_own (retP cfg.P Tryz.f68) [true, true, true, false, true, false] code_r17_own ⟨spread .undef 168 0 [(5, t5)], spread .val 168 0 [(1, (.loc 1 0))], spread none 168 0 [(1, some [((proj 0 b1), .val), ((proj 1 b1), .val), ((proj 2 b1), .val), ((proj 3 b1), .val), ((proj 4 b1), .val), ((proj 5 b1), .val), ((proj 6 b1), .val), ((proj 7 b1), .val), ((proj 8 b1), .val), ((proj 9 b1), .val), ((proj 10 b1), .val), ((proj 11 b1), .val), ((proj 12 b1), .val), ((proj 13 b1), .val), ((proj 14 b1), .val), ((proj 15 b1), .val), ((proj 16 b1), .val), ((proj 17 b1), .val), ((proj 18 b1), .val), ((proj 19 b1), .val)])], []⟩
noncomputable def P_r17_own_10h (R : Orc) (t6 : DV) (b1 : DV) : Option DV := headP cfg R fl_r17_own (retP cfg.P Tryz.f68) [true, true, true, true, false, true, false] code_r17_own ⟨spread .undef 168 0 [(6, t6)], spread .val 168 0 [(1, (.loc 1 0))], spread none 168 0 [(1, some [((proj 0 b1), .val), ((proj 1 b1), .val), ((proj 2 b1), .val), ((proj 3 b1), .val), ((proj 4 b1), .val), ((proj 5 b1), .val), ((proj 6 b1), .val), ((proj 7 b1), .val), ((proj 8 b1), .val), ((proj 9 b1), .val), ((proj 10 b1), .val), ((proj 11 b1), .val), ((proj 12 b1), .val), ((proj 13 b1), .val), ((proj 14 b1), .val), ((proj 15 b1), .val), ((proj 16 b1), .val), ((proj 17 b1), .val), ((proj 18 b1), .val), ((proj 19 b1), .val)])], []⟩
noncomputable def P_r17_own_15h (R : Orc) (t7 : DV) (b1 : DV) : Option DV := headP cfg R fl_r17_own (retP cfg.P Tryz.f68) [true, true, true, true, true, false, true, false] code_r17_own ⟨spread .undef 168 0 [(7, t7)], spread .val 168 0 [(1, (.loc 1 0))], spread none 168 0 [(1, some [((proj 0 b1), .val), ((proj 1 b1), .val), ((proj 2 b1), .val), ((proj 3 b1), .val), ((proj 4 b1), .val), ((proj 5 b1), .val), ((proj 6 b1), .val), ((proj 7 b1), .val), ((proj 8 b1), .val), ((proj 9 b1), .val), ((proj 10 b1), .val), ((proj 11 b1), .val), ((proj 12 b1), .val), ((proj 13 b1), .val), ((proj 14 b1), .val), ((proj 15 b1), .val), ((proj 16 b1), .val), ((proj 17 b1), .val), ((proj 18 b1), .val), ((proj 19 b1), .val)])], []⟩
theorem eq_r17_own (R : Orc) (x0 : DV) : P_r17_own R x0 =
  (og (isAggN 20 x0) <|
  ob (R.p F_r17_bare [(.agg [(proj 0 x0), (proj 1 x0), (proj 2 x0), (proj 3 x0), (proj 4 x0), (proj 5 x0), (proj 6 x0), (proj 7 x0), (proj 8 x0), (proj 9 x0), (proj 10 x0), (proj 11 x0), (proj 12 x0), (proj 13 x0), (proj 14 x0), (proj 15 x0), (proj 16 x0), (proj 17 x0), (proj 18 x0), (proj 19 x0)])]) fun d1 =>
  ob (dExt 0 d1) fun d2 =>
  ob (dExt 1 d1) fun d3 =>
  og (isAggN 20 d2) <|
  ob (dLen (proj 19 x0)) fun d4 =>
  ob (dBin .neq d3 d4) fun d5 =>
  ogd d5
   (some (.bool false))
   (ob (R.p F_r17_flat [(.agg [(proj 0 d2), (proj 1 d2), (proj 2 d2), (proj 3 d2), (proj 4 d2), (proj 5 d2), (proj 6 d2), (proj 7 d2), (proj 8 d2), (proj 9 d2), (proj 10 d2), (proj 11 d2), (proj 12 d2), (proj 13 d2), (proj 14 d2), (proj 15 d2), (proj 16 d2), (proj 17 d2), (proj 18 d2), (proj 19 d2)]), (.agg [(proj 0 x0), (proj 1 x0), (proj 2 x0), (proj 3 x0), (proj 4 x0), (proj 5 x0), (proj 6 x0), (proj 7 x0), (proj 8 x0), (proj 9 x0), (proj 10 x0), (proj 11 x0), (proj 12 x0), (proj 13 x0), (proj 14 x0), (proj 15 x0), (proj 16 x0), (proj 17 x0), (proj 18 x0), (proj 19 x0)])]) fun d6 =>
   ob (dUn .not d6) fun d7 =>
   oif d7
    (some (.bool false))
    (P_r17_own_5h R (.int .i64 0) x0))
   none) := evP_of [] (by kernel_rfl)
theorem eq_r17_own_5h (R : Orc) (t5 : DV) (b1 : DV) : P_r17_own_5h R t5 b1 =
  (ob (dLen (proj 17 b1)) fun d1 =>
  ob (dBin .lss t5 d1) fun d2 =>
  oif d2
   (ob (dIdx 3 (proj 17 b1) t5) fun d3 =>
   ob (R.p F_r03_Right [(.agg [(proj 0 d3), (proj 1 d3), (proj 2 d3)])]) fun d4 =>
   ob (dUn .not d4) fun d5 =>
   oif d5
    (some (.bool false))
    (ob (dBin .add t5 (.int .i64 1)) fun d6 =>
    P_r17_own_5h R d6 b1))
   (P_r17_own_10h R (.int .i64 0) b1)) := headP_of [] (by kernel_rfl)
theorem eq_r17_own_10h (R : Orc) (t6 : DV) (b1 : DV) : P_r17_own_10h R t6 b1 =
  (ob (dLen (proj 10 b1)) fun d1 =>
  ob (dBin .lss t6 d1) fun d2 =>
  oif d2
   (ob (dIdx 1 (proj 10 b1) t6) fun d3 =>
   og (isLeaf d3) <|
   ob (dBin .lss d3 (.int .i64 0)) fun d4 =>
   ogd d4
    (some (.bool false))
    (ob (dIdx 1 (proj 10 b1) t6) fun d5 =>
    og (isLeaf d5) <|
    ob (dBin .gtr d5 (.int .i64 1048576)) fun d6 =>
    oif d6
     (some (.bool false))
     (ob (dBin .add t6 (.int .i64 1)) fun d7 =>
     P_r17_own_10h R d7 b1))
    none)
   (P_r17_own_15h R (.int .i64 0) b1)) := headP_of [] (by kernel_rfl)
set_option maxRecDepth 100000 in
theorem eq_r17_own_15h (R : Orc) (t7 : DV) (b1 : DV) : P_r17_own_15h R t7 b1 =
  (ob (dLen (proj 18 b1)) fun d1 =>
  ob (dBin .lss t7 d1) fun d2 =>
  oif d2
   (ob (dIdx 7 (proj 18 b1) t7) fun d3 =>
   ob (R.p F_r05_RightPat [(.agg [(proj 0 d3), (proj 1 d3), (proj 2 d3), (proj 3 d3), (proj 4 d3), (proj 5 d3), (proj 6 d3)])]) fun d4 =>
   ob (dUn .not d4) fun d5 =>
   oif d5
    (some (.bool false))
    (ob (dBin .add t7 (.int .i64 1)) fun d6 =>
    P_r17_own_15h R d6 b1))
   (ob (dBin .eql (proj 0 b1) (.int .i64 1)) fun d7 =>
   oif d7
    (ob (R.p F_r01_Name [(proj 3 b1)]) fun d8 =>
    some d8)
    (ob (dBin .eql (proj 0 b1) (.int .i64 11)) fun d9 =>
    oif d9
     (ob (R.p F_r01_Name [(proj 3 b1)]) fun d10 =>
     some d10)
     (ob (dBin .eql (proj 0 b1) (.int .i64 3)) fun d11 =>
     oif d11
      (ob (dBin .eql (proj 5 b1) (.int .i64 0)) fun d12 =>
      ogd d12
       (some (.bool true))
       (ob (dBin .eql (proj 5 b1) (.int .i64 1)) fun d13 =>
       some d13)
       none)
      (ob (dBin .eql (proj 0 b1) (.int .i64 4)) fun d14 =>
      oif d14
       (ob (dLenS (proj 6 b1)) fun d15 =>
       ob (dBin .leq d15 (.int .i64 200)) fun d16 =>
       some d16)
       (ob (dBin .eql (proj 0 b1) (.int .i64 7)) fun d17 =>
       oif d17
        (ob (R.p F_r03_Right [(.agg [(proj 11 b1), (proj 12 b1), (proj 13 b1)])]) fun d18 =>
        some d18)
        (ob (dBin .eql (proj 0 b1) (.int .i64 9)) fun d19 =>
        oif d19
         (ob (R.p F_r01_Name [(proj 3 b1)]) fun d20 =>
         ogd d20
          (ob (R.p F_r03_Right [(.agg [(proj 11 b1), (proj 12 b1), (proj 13 b1)])]) fun d21 =>
          some d21)
          (some (.bool false))
          none)
         (ob (dBin .eql (proj 0 b1) (.int .i64 12)) fun d22 =>
         oif d22
          (ob (R.p F_r01_Name [(proj 3 b1)]) fun d23 =>
          ogd d23
           (ob (R.p F_r01_Name [(proj 4 b1)]) fun d24 =>
           ogd d24
            (ob (R.p F_r03_Right [(.agg [(proj 11 b1), (proj 12 b1), (proj 13 b1)])]) fun d25 =>
            ogd d25
             (ob (R.p F_r03_Right [(.agg [(proj 14 b1), (proj 15 b1), (proj 16 b1)])]) fun d26 =>
             some d26)
             (some (.bool false))
             none)
            (some (.bool false))
            none)
           (some (.bool false))
           none)
          (ob (dBin .eql (proj 0 b1) (.int .i64 14)) fun d27 =>
          oif d27
           (ob (dLen (proj 18 b1)) fun d28 =>
           ob (dBin .gtr d28 (.int .i64 0)) fun d29 =>
           some d29)
           (ob (dBin .eql (proj 0 b1) (.int .i64 15)) fun d30 =>
           oif d30
            (ob (dBin .geq (proj 7 b1) (.int .i64 1)) fun d31 =>
            ogd d31
             (ob (dBin .leq (proj 7 b1) (.int .i64 7)) fun d32 =>
             some d32)
             (some (.bool false))
             none)
            (ob (dBin .eql (proj 0 b1) (.int .i64 16)) fun d33 =>
            oif d33
             (ob (dBin .geq (proj 8 b1) (.int .i64 0)) fun d34 =>
             ogd d34
              (ob (dBin .leq (proj 8 b1) (.int .i64 1048576)) fun d35 =>
              ogd d35
               (ob (R.p F_r03_Right [(.agg [(proj 11 b1), (proj 12 b1), (proj 13 b1)])]) fun d36 =>
               ogd d36
                (ob (R.p F_r03_Right [(.agg [(proj 14 b1), (proj 15 b1), (proj 16 b1)])]) fun d37 =>
                some d37)
                (some (.bool false))
                none)
               (some (.bool false))
               none)
              (some (.bool false))
              none)
             (some (.bool true))))))))))))) := headP_of [] (by kernel_rfl)
theorem call_r17_own (x0 : DV) {d : DV} (h : P_r17_own (run cfg) x0 = some d) : (run cfg).p F_r17_own [x0] = some d :=
  run_pure (fn := Tryz.f68) (c := code_r17_own) (by kernel_rfl) Tryz.func68 (by kernel_rfl) ((show _ = P_r17_own (run cfg) x0 by kernel_rfl).trans h)

/-! ### l19_cast -/
noncomputable def code_l19_cast : Code := Tryz.f69.body.getD .skip
noncomputable def P_l19_cast (R : Orc) (x0 : DV) (x1 : DV) (x2 : DV) : Option DV := evP cfg R fl_l19_cast (retP cfg.P Tryz.f69) [] code_l19_cast (initSt Tryz.f69 [(x0, .val), (x1, .val), (x2, .val)] [])
theorem eq_l19_cast (R : Orc) (x0 : DV) (x1 : DV) (x2 : DV) : P_l19_cast R x0 x1 x2 =
  (og (isAggN 20 x2) <|
  ob (R.p F_r03_Leaf [x0]) fun d1 =>
  ob (R.p F_r03_Leaf [x1]) fun d2 =>
  og (isAggN 3 d1) <|
  og (isAggN 3 d2) <|
  some (.agg [(.int .i64 16), (.int .i64 0), (.int .i64 0), (.str ⟨#[]⟩), (.str ⟨#[]⟩), (.int .i64 0), (.str ⟨#[]⟩), (.int .i64 0), (.int .i64 0), (.bool false), (.list 1 []), (proj 0 d1), (proj 1 d1), (proj 2 d1), (proj 0 d2), (proj 1 d2), (proj 2 d2), (.list 3 []), (.list 7 []), (.list 20 [(.agg [(proj 0 x2), (proj 1 x2), (proj 2 x2), (proj 3 x2), (proj 4 x2), (proj 5 x2), (proj 6 x2), (proj 7 x2), (proj 8 x2), (proj 9 x2), (proj 10 x2), (proj 11 x2), (proj 12 x2), (proj 13 x2), (proj 14 x2), (proj 15 x2), (proj 16 x2), (proj 17 x2), (proj 18 x2), (proj 19 x2)])])])) := evP_of [] (by kernel_rfl)
theorem call_l19_cast (x0 : DV) (x1 : DV) (x2 : DV) {d : DV} (h : P_l19_cast (run cfg) x0 x1 x2 = some d) : (run cfg).p F_l19_cast [x0, x1, x2] = some d :=
  run_pure (fn := Tryz.f69) (c := code_l19_cast) (by kernel_rfl) Tryz.func69 (by kernel_rfl) ((show _ = P_l19_cast (run cfg) x0 x1 x2 by kernel_rfl).trans h)

/-! ### r17_K_typ -/
noncomputable def code_r17_K_typ : Code := Tryz.f70.body.getD .skip
noncomputable def P_r17_K_typ (R : Orc) (x0 : Nat) (x1 : DV) (x2 : DV) (x3 : DV) (sg : List SObj) : Option (List DV × List SObj) := evP cfg R fl_r17_K_typ (retR cfg.P Tryz.f70 sig_r17_K_typ) [] code_r17_K_typ (initSt Tryz.f70 [(.undef, (.ptr x0 0)), (x1, .val), (x2, .val), (x3, .val)] sg)
noncomputable def P_r17_K_typ_10 (R : Orc) (b5 : DV) (b8_0 : DV) (b8_1 : DV) (b8_2 : DV) (sg : List SObj) : Option (List DV × List SObj) := evP cfg R fl_r17_K_typ (retR cfg.P Tryz.f70 sig_r17_K_typ) [true, true, false, true, false, true, true, true, false] code_r17_K_typ ⟨spread .undef 288 0 [], spread .val 288 0 [(5, (.loc 5 0)), (8, (.loc 8 0))], spread none 288 0 [(5, some [((proj 0 b5), .val), ((proj 1 b5), .val), ((proj 2 b5), .val), ((proj 3 b5), .val), ((proj 4 b5), .val), ((proj 5 b5), .val), ((proj 6 b5), .val), ((proj 7 b5), .val), ((proj 8 b5), .val), ((proj 9 b5), .val), ((proj 10 b5), .val), ((proj 11 b5), .val), ((proj 12 b5), .val), ((proj 13 b5), .val), ((proj 14 b5), .val), ((proj 15 b5), .val), ((proj 16 b5), .val), ((proj 17 b5), .val), ((proj 18 b5), .val), ((proj 19 b5), .val)]), (8, some [(b8_0, .val), (b8_1, .val), (b8_2, .val)])], sg⟩
noncomputable def P_r17_K_typ_24 (R : Orc) (t0i : Nat) (t2 : DV) (t3 : DV) (t25 : DV) (b5 : DV) (b8_0 : DV) (b8_1 : DV) (b8_2 : DV) (sg : List SObj) : Option (List DV × List SObj) := evP cfg R fl_r17_K_typ (retR cfg.P Tryz.f70 sig_r17_K_typ) [true, true, false, true, false, true, true, true, true, true, true, true, true, true, true, true, true] code_r17_K_typ ⟨spread .undef 288 0 [(2, t2), (3, t3), (25, t25)], spread .val 288 0 [(0, (.ptr t0i 0)), (5, (.loc 5 0)), (8, (.loc 8 0))], spread none 288 0 [(5, some [((proj 0 b5), .val), ((proj 1 b5), .val), ((proj 2 b5), .val), ((proj 3 b5), .val), ((proj 4 b5), .val), ((proj 5 b5), .val), ((proj 6 b5), .val), ((proj 7 b5), .val), ((proj 8 b5), .val), ((proj 9 b5), .val), ((proj 10 b5), .val), ((proj 11 b5), .val), ((proj 12 b5), .val), ((proj 13 b5), .val), ((proj 14 b5), .val), ((proj 15 b5), .val), ((proj 16 b5), .val), ((proj 17 b5), .val), ((proj 18 b5), .val), ((proj 19 b5), .val)]), (8, some [(b8_0, .val), (b8_1, .val), (b8_2, .val)])], sg⟩
noncomputable def P_r17_K_typ_30 (R : Orc) (t0i : Nat) (t2 : DV) (t3 : DV) (t25 : DV) (b5 : DV) (b8_0 : DV) (b8_1 : DV) (b8_2 : DV) (sg : List SObj) : Option (List DV × List SObj) := evP cfg R fl_r17_K_typ (retR cfg.P Tryz.f70 sig_r17_K_typ) [true, true, false, true, false, true, true, true, true, true, true, true, true, true, true, true, true, true, true] code_r17_K_typ ⟨spread .undef 288 0 [(2, t2), (3, t3), (25, t25)], spread .val 288 0 [(0, (.ptr t0i 0)), (5, (.loc 5 0)), (8, (.loc 8 0))], spread none 288 0 [(5, some [((proj 0 b5), .val), ((proj 1 b5), .val), ((proj 2 b5), .val), ((proj 3 b5), .val), ((proj 4 b5), .val), ((proj 5 b5), .val), ((proj 6 b5), .val), ((proj 7 b5), .val), ((proj 8 b5), .val), ((proj 9 b5), .val), ((proj 10 b5), .val), ((proj 11 b5), .val), ((proj 12 b5), .val), ((proj 13 b5), .val), ((proj 14 b5), .val), ((proj 15 b5), .val), ((proj 16 b5), .val), ((proj 17 b5), .val), ((proj 18 b5), .val), ((proj 19 b5), .val)]), (8, some [(b8_0, .val), (b8_1, .val), (b8_2, .val)])], sg⟩
noncomputable def P_r17_K_typ_41 (R : Orc) (t0i : Nat) (t2 : DV) (t3 : DV) (t25 : DV) (b5 : DV) (b8_0 : DV) (b8_1 : DV) (b8_2 : DV) (sg : List SObj) : Option (List DV × List SObj) := evP cfg R fl_r17_K_typ (retR cfg.P Tryz.f70 sig_r17_K_typ) [true, true, false, true, false, true, true, true, true, true, true, true, true, true, true, true, true, true, true, true, true, true, true, true, true] code_r17_K_typ ⟨spread .undef 288 0 [(2, t2), (3, t3), (25, t25)], spread .val 288 0 [(0, (.ptr t0i 0)), (5, (.loc 5 0)), (8, (.loc 8 0))], spread none 288 0 [(5, some [((proj 0 b5), .val), ((proj 1 b5), .val), ((proj 2 b5), .val), ((proj 3 b5), .val), ((proj 4 b5), .val), ((proj 5 b5), .val), ((proj 6 b5), .val), ((proj 7 b5), .val), ((proj 8 b5), .val), ((proj 9 b5), .val), ((proj 10 b5), .val), ((proj 11 b5), .val), ((proj 12 b5), .val), ((proj 13 b5), .val), ((proj 14 b5), .val), ((proj 15 b5), .val), ((proj 16 b5), .val), ((proj 17 b5), .val), ((proj 18 b5), .val), ((proj 19 b5), .val)]), (8, some [(b8_0, .val), (b8_1, .val), (b8_2, .val)])], sg⟩
set_option maxRecDepth 100000 in
theorem eq_r17_K_typ (R : Orc) (x0 : Nat) (x1 : DV) (x2 : DV) (x3 : DV) (sg : List SObj) : P_r17_K_typ R x0 x1 x2 x3 sg =
  (og (isAggN 20 x1) <|
  ob (sgBox sg x0) fun c1 =>
  ob (cellDat c1 0) fun d2 =>
  ob (dBin .neq d2 (.int .i64 0)) fun d3 =>
  oif d3
   (some ([(.agg [(.int .i64 0), (.int .i64 0), (.list 3 [])])], sg))
   (ob (dBin .eql (proj 0 x1) (.int .i64 1)) fun d4 =>
   oif d4
    (ob (R.r F_r17_K_name [(.undef, (.ptr x0 0)), ((.agg [(proj 0 x1), (proj 1 x1), (proj 2 x1), (proj 3 x1), (proj 4 x1), (proj 5 x1), (proj 6 x1), (proj 7 x1), (proj 8 x1), (proj 9 x1), (proj 10 x1), (proj 11 x1), (proj 12 x1), (proj 13 x1), (proj 14 x1), (proj 15 x1), (proj 16 x1), (proj 17 x1), (proj 18 x1), (proj 19 x1)]), .val), (x2, .val), (x3, .val)] sg) fun q5 =>
    og (isAggN 3 (q5.1.getD 0 .undef)) <|
    some ([(.agg [(proj 0 (q5.1.getD 0 .undef)), (proj 1 (q5.1.getD 0 .undef)), (proj 2 (q5.1.getD 0 .undef))])], q5.2))
    (ob (dBin .eql (proj 0 x1) (.int .i64 2)) fun d6 =>
    oif d6
     (P_r17_K_typ_10 R x1 (.int .i64 0) (.int .i64 0) (.list 3 []) sg)
     (ob (dBin .eql (proj 0 x1) (.int .i64 3)) fun d7 =>
     oif d7
      (P_r17_K_typ_10 R x1 (.int .i64 0) (.int .i64 0) (.list 3 []) sg)
      (ob (dBin .eql (proj 0 x1) (.int .i64 4)) fun d8 =>
      oif d8
       (P_r17_K_typ_10 R x1 (.int .i64 0) (.int .i64 0) (.list 3 []) sg)
       (ob (dBin .eql (proj 0 x1) (.int .i64 5)) fun d9 =>
       oif d9
        (P_r17_K_typ_10 R x1 (.int .i64 0) (.int .i64 0) (.list 3 []) sg)
        (ob (dBin .eql (proj 0 x1) (.int .i64 6)) fun d10 =>
        oif d10
         (ob (dIdx 20 (proj 19 x1) (.int .i64 0)) fun d11 =>
         ob (R.r F_r17_K_typ [(.undef, (.ptr x0 0)), ((.agg [(proj 0 d11), (proj 1 d11), (proj 2 d11), (proj 3 d11), (proj 4 d11), (proj 5 d11), (proj 6 d11), (proj 7 d11), (proj 8 d11), (proj 9 d11), (proj 10 d11), (proj 11 d11), (proj 12 d11), (proj 13 d11), (proj 14 d11), (proj 15 d11), (proj 16 d11), (proj 17 d11), (proj 18 d11), (proj 19 d11)]), .val), (x2, .val), (x3, .val)] sg) fun q12 =>
         og (isAggN 3 (q12.1.getD 0 .undef)) <|
         ob (dIdx 20 (proj 19 x1) (.int .i64 1)) fun d13 =>
         ob (R.r F_r17_K_typ [(.undef, (.ptr x0 0)), ((.agg [(proj 0 d13), (proj 1 d13), (proj 2 d13), (proj 3 d13), (proj 4 d13), (proj 5 d13), (proj 6 d13), (proj 7 d13), (proj 8 d13), (proj 9 d13), (proj 10 d13), (proj 11 d13), (proj 12 d13), (proj 13 d13), (proj 14 d13), (proj 15 d13), (proj 16 d13), (proj 17 d13), (proj 18 d13), (proj 19 d13)]), .val), (x2, .val), (x3, .val)] q12.2) fun q14 =>
         ob (R.p F_r03_Two [(.int .i64 7), (.agg [(proj 0 (q12.1.getD 0 .undef)), (proj 1 (q12.1.getD 0 .undef)), (proj 2 (q12.1.getD 0 .undef))]), (q14.1.getD 0 .undef)]) fun d15 =>
         og (isAggN 3 d15) <|
         some ([(.agg [(proj 0 d15), (proj 1 d15), (proj 2 d15)])], q14.2))
         (ob (dBin .eql (proj 0 x1) (.int .i64 7)) fun d16 =>
         oif d16
          (ob (R.r F_r17_K_scoped [(.undef, (.ptr x0 0)), ((.agg [(proj 11 x1), (proj 12 x1), (proj 13 x1)]), .val), (x3, .val)] sg) fun q17 =>
          ob (R.p F_r03_List [(.agg [(proj 11 x1), (proj 12 x1), (proj 13 x1)])]) fun d18 =>
          og (isAggN 3 d18) <|
          some ([(.agg [(proj 0 d18), (proj 1 d18), (proj 2 d18)])], q17.2))
          (ob (dBin .eql (proj 0 x1) (.int .i64 8)) fun d19 =>
          oif d19
           (ob (dIdx 20 (proj 19 x1) (.int .i64 0)) fun d20 =>
           ob (R.r F_r17_K_typ [(.undef, (.ptr x0 0)), ((.agg [(proj 0 d20), (proj 1 d20), (proj 2 d20), (proj 3 d20), (proj 4 d20), (proj 5 d20), (proj 6 d20), (proj 7 d20), (proj 8 d20), (proj 9 d20), (proj 10 d20), (proj 11 d20), (proj 12 d20), (proj 13 d20), (proj 14 d20), (proj 15 d20), (proj 16 d20), (proj 17 d20), (proj 18 d20), (proj 19 d20)]), .val), (x2, .val), (x3, .val)] sg) fun q21 =>
           ob (R.p F_r03_List [(q21.1.getD 0 .undef)]) fun d22 =>
           og (isAggN 3 d22) <|
           ob (dIdx 20 (proj 19 x1) (.int .i64 1)) fun d23 =>
           ob (R.r F_r17_K_typ [(.undef, (.ptr x0 0)), ((.agg [(proj 0 d23), (proj 1 d23), (proj 2 d23), (proj 3 d23), (proj 4 d23), (proj 5 d23), (proj 6 d23), (proj 7 d23), (proj 8 d23), (proj 9 d23), (proj 10 d23), (proj 11 d23), (proj 12 d23), (proj 13 d23), (proj 14 d23), (proj 15 d23), (proj 16 d23), (proj 17 d23), (proj 18 d23), (proj 19 d23)]), .val), (x2, .val), (x3, .val)] q21.2) fun q24 =>
           ob (R.p F_r03_Same [(q24.1.getD 0 .undef), (.agg [(proj 0 d22), (proj 1 d22), (proj 2 d22)])]) fun d25 =>
           ob (R.r F_r17_K_must [(.undef, (.ptr x0 0)), (d25, .val)] q24.2) fun q26 =>
           some ([(.agg [(proj 0 d22), (proj 1 d22), (proj 2 d22)])], q26.2))
           (ob (dBin .eql (proj 0 x1) (.int .i64 9)) fun d27 =>
           oif d27
            (ob (R.r F_r17_K_scoped [(.undef, (.ptr x0 0)), ((.agg [(proj 11 x1), (proj 12 x1), (proj 13 x1)]), .val), (x3, .val)] sg) fun q28 =>
            ob (dIdx 20 (proj 19 x1) (.int .i64 0)) fun d29 =>
            ob (R.p F_r17_plain [x2, (proj 3 x1), (.agg [(proj 11 x1), (proj 12 x1), (proj 13 x1)])]) fun d30 =>
            ob (R.r F_r17_K_typ [(.undef, (.ptr x0 0)), ((.agg [(proj 0 d29), (proj 1 d29), (proj 2 d29), (proj 3 d29), (proj 4 d29), (proj 5 d29), (proj 6 d29), (proj 7 d29), (proj 8 d29), (proj 9 d29), (proj 10 d29), (proj 11 d29), (proj 12 d29), (proj 13 d29), (proj 14 d29), (proj 15 d29), (proj 16 d29), (proj 17 d29), (proj 18 d29), (proj 19 d29)]), .val), (d30, .val), (x3, .val)] q28.2) fun q31 =>
            ob (R.p F_r03_Two [(.int .i64 9), (.agg [(proj 11 x1), (proj 12 x1), (proj 13 x1)]), (q31.1.getD 0 .undef)]) fun d32 =>
            og (isAggN 3 d32) <|
            some ([(.agg [(proj 0 d32), (proj 1 d32), (proj 2 d32)])], q31.2))
            (P_r17_K_typ_24 R x0 x2 x3 (proj 0 x1) x1 (.int .i64 0) (.int .i64 0) (.list 3 []) sg))))))))))) := evP_of [10, 24, 30, 41] (by kernel_rfl)
theorem eq_r17_K_typ_10 (R : Orc) (b5 : DV) (b8_0 : DV) (b8_1 : DV) (b8_2 : DV) (sg : List SObj) : P_r17_K_typ_10 R b5 b8_0 b8_1 b8_2 sg =
  (ob (dBin .sub (proj 0 b5) (.int .i64 2)) fun d1 =>
  ob (dBin .add d1 (.int .i64 1)) fun d2 =>
  ob (R.p F_r03_Leaf [d2]) fun d3 =>
  og (isAggN 3 d3) <|
  some ([(.agg [(proj 0 d3), (proj 1 d3), (proj 2 d3)])], sg)) := evP_of [10, 24, 30, 41] (by kernel_rfl)
set_option maxRecDepth 100000 in
theorem eq_r17_K_typ_24 (R : Orc) (t0i : Nat) (t2 : DV) (t3 : DV) (t25 : DV) (b5 : DV) (b8_0 : DV) (b8_1 : DV) (b8_2 : DV) (sg : List SObj) : P_r17_K_typ_24 R t0i t2 t3 t25 b5 b8_0 b8_1 b8_2 sg =
  (ob (dBin .eql t25 (.int .i64 10)) fun d1 =>
  oif d1
   (ob (dIdx 20 (proj 19 b5) (.int .i64 0)) fun d2 =>
   ob (R.r F_r17_K_typ [(.undef, (.ptr t0i 0)), ((.agg [(proj 0 d2), (proj 1 d2), (proj 2 d2), (proj 3 d2), (proj 4 d2), (proj 5 d2), (proj 6 d2), (proj 7 d2), (proj 8 d2), (proj 9 d2), (proj 10 d2), (proj 11 d2), (proj 12 d2), (proj 13 d2), (proj 14 d2), (proj 15 d2), (proj 16 d2), (proj 17 d2), (proj 18 d2), (proj 19 d2)]), .val), (t2, .val), (t3, .val)] sg) fun q3 =>
   og (isAggN 3 (q3.1.getD 0 .undef)) <|
   ob (dIdx 20 (proj 19 b5) (.int .i64 1)) fun d4 =>
   ob (R.r F_r17_K_typ [(.undef, (.ptr t0i 0)), ((.agg [(proj 0 d4), (proj 1 d4), (proj 2 d4), (proj 3 d4), (proj 4 d4), (proj 5 d4), (proj 6 d4), (proj 7 d4), (proj 8 d4), (proj 9 d4), (proj 10 d4), (proj 11 d4), (proj 12 d4), (proj 13 d4), (proj 14 d4), (proj 15 d4), (proj 16 d4), (proj 17 d4), (proj 18 d4), (proj 19 d4)]), .val), (t2, .val), (t3, .val)] q3.2) fun q5 =>
   og (isAggN 3 (q5.1.getD 0 .undef)) <|
   ob (sgBox q5.2 t0i) fun c6 =>
   ob (cellDat c6 0) fun d7 =>
   ob (dBin .eql d7 (.int .i64 0)) fun d8 =>
   ogd d8
    (ob (dBin .eql (proj 0 (q3.1.getD 0 .undef)) (.int .i64 9)) fun d9 =>
    ogd d9
     (ob (dIdx 3 (proj 2 (q3.1.getD 0 .undef)) (.int .i64 0)) fun d10 =>
     ob (R.p F_r03_Same [(.agg [(proj 0 d10), (proj 1 d10), (proj 2 d10)]), (.agg [(proj 0 (q5.1.getD 0 .undef)), (proj 1 (q5.1.getD 0 .undef)), (proj 2 (q5.1.getD 0 .undef))])]) fun d11 =>
     oif d11
      (ob (dIdx 3 (proj 2 (q3.1.getD 0 .undef)) (.int .i64 1)) fun d12 =>
      some ([(.agg [(proj 0 d12), (proj 1 d12), (proj 2 d12)])], q5.2))
      (ob (R.r F_r17_K_wrong [(.undef, (.ptr t0i 0)), ((.int .i64 4), .val)] q5.2) fun q13 =>
      some ([(.agg [(.int .i64 0), (.int .i64 0), (.list 3 [])])], q13.2)))
     (ob (R.r F_r17_K_wrong [(.undef, (.ptr t0i 0)), ((.int .i64 4), .val)] q5.2) fun q14 =>
     some ([(.agg [(.int .i64 0), (.int .i64 0), (.list 3 [])])], q14.2))
     none)
    (ob (R.r F_r17_K_wrong [(.undef, (.ptr t0i 0)), ((.int .i64 4), .val)] q5.2) fun q15 =>
    some ([(.agg [(.int .i64 0), (.int .i64 0), (.list 3 [])])], q15.2))
    none)
   (P_r17_K_typ_30 R t0i t2 t3 t25 b5 b8_0 b8_1 b8_2 sg)) := evP_of [10, 24, 30, 41] (by kernel_rfl)
set_option maxRecDepth 100000 in
theorem eq_r17_K_typ_30 (R : Orc) (t0i : Nat) (t2 : DV) (t3 : DV) (t25 : DV) (b5 : DV) (b8_0 : DV) (b8_1 : DV) (b8_2 : DV) (sg : List SObj) : P_r17_K_typ_30 R t0i t2 t3 t25 b5 b8_0 b8_1 b8_2 sg =
  (ob (dBin .eql t25 (.int .i64 11)) fun d1 =>
  oif d1
   (ob (dIdx 20 (proj 19 b5) (.int .i64 0)) fun d2 =>
   ob (R.r F_r17_K_with [(.undef, (.ptr t0i 0)), (t3, .val), ((proj 10 b5), .val)] sg) fun q3 =>
   ob (R.r F_r17_K_typ [(.undef, (.ptr t0i 0)), ((.agg [(proj 0 d2), (proj 1 d2), (proj 2 d2), (proj 3 d2), (proj 4 d2), (proj 5 d2), (proj 6 d2), (proj 7 d2), (proj 8 d2), (proj 9 d2), (proj 10 d2), (proj 11 d2), (proj 12 d2), (proj 13 d2), (proj 14 d2), (proj 15 d2), (proj 16 d2), (proj 17 d2), (proj 18 d2), (proj 19 d2)]), .val), (t2, .val), ((q3.1.getD 0 .undef), .val)] q3.2) fun q4 =>
   og (isAggN 3 (q4.1.getD 0 .undef)) <|
   ob (dIdx 20 (proj 19 b5) (.int .i64 1)) fun d5 =>
   ob (dApp 5 (.list 5 []) t2) fun d6 =>
   og (isCell (proj 3 b5)) <|
   og (isCell (proj 10 b5)) <|
   ob (dApp 5 d6 (.list 5 [(.agg [(proj 3 b5), (proj 0 (q4.1.getD 0 .undef)), (proj 1 (q4.1.getD 0 .undef)), (proj 2 (q4.1.getD 0 .undef)), (proj 10 b5)])])) fun d7 =>
   ob (R.r F_r17_K_typ [(.undef, (.ptr t0i 0)), ((.agg [(proj 0 d5), (proj 1 d5), (proj 2 d5), (proj 3 d5), (proj 4 d5), (proj 5 d5), (proj 6 d5), (proj 7 d5), (proj 8 d5), (proj 9 d5), (proj 10 d5), (proj 11 d5), (proj 12 d5), (proj 13 d5), (proj 14 d5), (proj 15 d5), (proj 16 d5), (proj 17 d5), (proj 18 d5), (proj 19 d5)]), .val), (d7, .val), (t3, .val)] q4.2) fun q8 =>
   og (isAggN 3 (q8.1.getD 0 .undef)) <|
   some ([(.agg [(proj 0 (q8.1.getD 0 .undef)), (proj 1 (q8.1.getD 0 .undef)), (proj 2 (q8.1.getD 0 .undef))])], q8.2))
   (ob (dBin .eql t25 (.int .i64 12)) fun d9 =>
   oif d9
    (ob (R.r F_r17_K_rec [(.undef, (.ptr t0i 0)), ((.agg [(proj 0 b5), (proj 1 b5), (proj 2 b5), (proj 3 b5), (proj 4 b5), (proj 5 b5), (proj 6 b5), (proj 7 b5), (proj 8 b5), (proj 9 b5), (proj 10 b5), (proj 11 b5), (proj 12 b5), (proj 13 b5), (proj 14 b5), (proj 15 b5), (proj 16 b5), (proj 17 b5), (proj 18 b5), (proj 19 b5)]), .val), (t2, .val), (t3, .val)] sg) fun q10 =>
    og (isAggN 3 (q10.1.getD 0 .undef)) <|
    some ([(.agg [(proj 0 (q10.1.getD 0 .undef)), (proj 1 (q10.1.getD 0 .undef)), (proj 2 (q10.1.getD 0 .undef))])], q10.2))
    (ob (dBin .eql t25 (.int .i64 13)) fun d11 =>
    oif d11
     (ob (dIdx 20 (proj 19 b5) (.int .i64 0)) fun d12 =>
     ob (R.r F_r17_K_typ [(.undef, (.ptr t0i 0)), ((.agg [(proj 0 d12), (proj 1 d12), (proj 2 d12), (proj 3 d12), (proj 4 d12), (proj 5 d12), (proj 6 d12), (proj 7 d12), (proj 8 d12), (proj 9 d12), (proj 10 d12), (proj 11 d12), (proj 12 d12), (proj 13 d12), (proj 14 d12), (proj 15 d12), (proj 16 d12), (proj 17 d12), (proj 18 d12), (proj 19 d12)]), .val), (t2, .val), (t3, .val)] sg) fun q13 =>
     og (isAggN 3 (q13.1.getD 0 .undef)) <|
     ob (dIdx 20 (proj 19 b5) (.int .i64 1)) fun d14 =>
     ob (R.r F_r17_K_typ [(.undef, (.ptr t0i 0)), ((.agg [(proj 0 d14), (proj 1 d14), (proj 2 d14), (proj 3 d14), (proj 4 d14), (proj 5 d14), (proj 6 d14), (proj 7 d14), (proj 8 d14), (proj 9 d14), (proj 10 d14), (proj 11 d14), (proj 12 d14), (proj 13 d14), (proj 14 d14), (proj 15 d14), (proj 16 d14), (proj 17 d14), (proj 18 d14), (proj 19 d14)]), .val), (t2, .val), (t3, .val)] q13.2) fun q15 =>
     og (isAggN 3 (q15.1.getD 0 .undef)) <|
     ob (dIdx 20 (proj 19 b5) (.int .i64 2)) fun d16 =>
     ob (R.r F_r17_K_typ [(.undef, (.ptr t0i 0)), ((.agg [(proj 0 d16), (proj 1 d16), (proj 2 d16), (proj 3 d16), (proj 4 d16), (proj 5 d16), (proj 6 d16), (proj 7 d16), (proj 8 d16), (proj 9 d16), (proj 10 d16), (proj 11 d16), (proj 12 d16), (proj 13 d16), (proj 14 d16), (proj 15 d16), (proj 16 d16), (proj 17 d16), (proj 18 d16), (proj 19 d16)]), .val), (t2, .val), (t3, .val)] q15.2) fun q17 =>
     og (isAggN 3 (q17.1.getD 0 .undef)) <|
     ob (dBin .eql (proj 0 (q13.1.getD 0 .undef)) (.int .i64 2)) fun d18 =>
     ogd d18
      (ob (R.p F_r03_Same [(.agg [(proj 0 (q15.1.getD 0 .undef)), (proj 1 (q15.1.getD 0 .undef)), (proj 2 (q15.1.getD 0 .undef))]), (.agg [(proj 0 (q17.1.getD 0 .undef)), (proj 1 (q17.1.getD 0 .undef)), (proj 2 (q17.1.getD 0 .undef))])]) fun d19 =>
      ob (R.r F_r17_K_must [(.undef, (.ptr t0i 0)), (d19, .val)] q17.2) fun q20 =>
      some ([(.agg [(proj 0 (q15.1.getD 0 .undef)), (proj 1 (q15.1.getD 0 .undef)), (proj 2 (q15.1.getD 0 .undef))])], q20.2))
      (ob (R.r F_r17_K_must [(.undef, (.ptr t0i 0)), ((.bool false), .val)] q17.2) fun q21 =>
      some ([(.agg [(proj 0 (q15.1.getD 0 .undef)), (proj 1 (q15.1.getD 0 .undef)), (proj 2 (q15.1.getD 0 .undef))])], q21.2))
      none)
     (P_r17_K_typ_41 R t0i t2 t3 t25 b5 b8_0 b8_1 b8_2 sg)))) := evP_of [10, 24, 30, 41] (by kernel_rfl)
set_option maxRecDepth 100000 in
theorem eq_r17_K_typ_41 (R : Orc) (t0i : Nat) (t2 : DV) (t3 : DV) (t25 : DV) (b5 : DV) (b8_0 : DV) (b8_1 : DV) (b8_2 : DV) (sg : List SObj) : P_r17_K_typ_41 R t0i t2 t3 t25 b5 b8_0 b8_1 b8_2 sg =
  (ob (dBin .eql t25 (.int .i64 14)) fun d1 =>
  oif d1
   (ob (R.r F_r17_K_match [(.undef, (.ptr t0i 0)), ((.agg [(proj 0 b5), (proj 1 b5), (proj 2 b5), (proj 3 b5), (proj 4 b5), (proj 5 b5), (proj 6 b5), (proj 7 b5), (proj 8 b5), (proj 9 b5), (proj 10 b5), (proj 11 b5), (proj 12 b5), (proj 13 b5), (proj 14 b5), (proj 15 b5), (proj 16 b5), (proj 17 b5), (proj 18 b5), (proj 19 b5)]), .val), (t2, .val), (t3, .val)] sg) fun q2 =>
   og (isAggN 3 (q2.1.getD 0 .undef)) <|
   some ([(.agg [(proj 0 (q2.1.getD 0 .undef)), (proj 1 (q2.1.getD 0 .undef)), (proj 2 (q2.1.getD 0 .undef))])], q2.2))
   (ob (dBin .eql t25 (.int .i64 15)) fun d3 =>
   oif d3
    (ob (R.r F_r17_K_op [(.undef, (.ptr t0i 0)), ((.agg [(proj 0 b5), (proj 1 b5), (proj 2 b5), (proj 3 b5), (proj 4 b5), (proj 5 b5), (proj 6 b5), (proj 7 b5), (proj 8 b5), (proj 9 b5), (proj 10 b5), (proj 11 b5), (proj 12 b5), (proj 13 b5), (proj 14 b5), (proj 15 b5), (proj 16 b5), (proj 17 b5), (proj 18 b5), (proj 19 b5)]), .val), (t2, .val), (t3, .val)] sg) fun q4 =>
    og (isAggN 3 (q4.1.getD 0 .undef)) <|
    some ([(.agg [(proj 0 (q4.1.getD 0 .undef)), (proj 1 (q4.1.getD 0 .undef)), (proj 2 (q4.1.getD 0 .undef))])], q4.2))
    (ob (dBin .eql t25 (.int .i64 16)) fun d5 =>
    oif d5
     (ob (dIdx 20 (proj 19 b5) (.int .i64 0)) fun d6 =>
     ob (R.r F_r17_K_typ [(.undef, (.ptr t0i 0)), ((.agg [(proj 0 d6), (proj 1 d6), (proj 2 d6), (proj 3 d6), (proj 4 d6), (proj 5 d6), (proj 6 d6), (proj 7 d6), (proj 8 d6), (proj 9 d6), (proj 10 d6), (proj 11 d6), (proj 12 d6), (proj 13 d6), (proj 14 d6), (proj 15 d6), (proj 16 d6), (proj 17 d6), (proj 18 d6), (proj 19 d6)]), .val), (t2, .val), (t3, .val)] sg) fun q7 =>
     og (isAggN 3 (q7.1.getD 0 .undef)) <|
     ob (R.r F_r17_K_scoped [(.undef, (.ptr t0i 0)), ((.agg [(proj 11 b5), (proj 12 b5), (proj 13 b5)]), .val), (t3, .val)] q7.2) fun q8 =>
     ob (R.r F_r17_K_scoped [(.undef, (.ptr t0i 0)), ((.agg [(proj 14 b5), (proj 15 b5), (proj 16 b5)]), .val), (t3, .val)] q8.2) fun q9 =>
     ob (R.p F_r03_Same [(.agg [(proj 0 (q7.1.getD 0 .undef)), (proj 1 (q7.1.getD 0 .undef)), (proj 2 (q7.1.getD 0 .undef))]), (.agg [(proj 11 b5), (proj 12 b5), (proj 13 b5)])]) fun d10 =>
     ogd d10
      (ob (R.p F_r08_Agree [(.agg [(proj 11 b5), (proj 12 b5), (proj 13 b5)]), (.agg [(proj 14 b5), (proj 15 b5), (proj 16 b5)])]) fun d11 =>
      ob (R.r F_r17_K_must [(.undef, (.ptr t0i 0)), (d11, .val)] q9.2) fun q12 =>
      some ([(.agg [(proj 14 b5), (proj 15 b5), (proj 16 b5)])], q12.2))
      (ob (R.r F_r17_K_must [(.undef, (.ptr t0i 0)), ((.bool false), .val)] q9.2) fun q13 =>
      some ([(.agg [(proj 14 b5), (proj 15 b5), (proj 16 b5)])], q13.2))
      none)
     (some ([(.agg [(.int .i64 0), (.int .i64 0), (.list 3 [])])], sg))))) := evP_of [10, 24, 30, 41] (by kernel_rfl)
theorem call_r17_K_typ (x0 : Nat) (x1 : DV) (x2 : DV) (x3 : DV) (sg : List SObj) {q : List DV × List SObj} (h : P_r17_K_typ (run cfg) x0 x1 x2 x3 sg = some q) : (run cfg).r F_r17_K_typ [(.undef, (.ptr x0 0)), (x1, .val), (x2, .val), (x3, .val)] sg = some q :=
  run_raw (s := sig_r17_K_typ) (fn := Tryz.f70) (c := code_r17_K_typ) (by kernel_rfl) Tryz.func70 (by kernel_rfl) ((show _ = P_r17_K_typ (run cfg) x0 x1 x2 x3 sg by kernel_rfl).trans h)

/-! ### l03_Heavy -/
noncomputable def code_l03_Heavy : Code := Tryz.f71.body.getD .skip
noncomputable def P_l03_Heavy (R : Orc) (x0 : DV) : Option DV := evP cfg R fl_l03_Heavy (retP cfg.P Tryz.f71) [] code_l03_Heavy (initSt Tryz.f71 [(x0, .val)] [])
noncomputable def P_l03_Heavy_3h (R : Orc) (t0 : DV) (t3 : DV) (t4 : DV) : Option DV := headP cfg R fl_l03_Heavy (retP cfg.P Tryz.f71) [true, true, false, true, false] code_l03_Heavy ⟨spread .undef 19 0 [(0, t0), (3, t3), (4, t4)], spread .val 19 0 [], spread none 19 0 [], []⟩
theorem eq_l03_Heavy (R : Orc) (x0 : DV) : P_l03_Heavy R x0 =
  (P_l03_Heavy_3h R x0 (.int .i64 0) (.int .i64 0)) := evP_of [] (by kernel_rfl)
theorem eq_l03_Heavy_3h (R : Orc) (t0 : DV) (t3 : DV) (t4 : DV) : P_l03_Heavy_3h R t0 t3 t4 =
  (ob (dLen t0) fun d1 =>
  ob (dBin .lss t4 d1) fun d2 =>
  oif d2
   (ob (dIdx 3 t0 t4) fun d3 =>
   ob (R.p F_l03_count [(.agg [(proj 0 d3), (proj 1 d3), (proj 2 d3)]), t3]) fun d4 =>
   ob (dBin .add t4 (.int .i64 1)) fun d5 =>
   P_l03_Heavy_3h R t0 d4 d5)
   (ob (dBin .gtr t3 (.int .i64 600)) fun d6 =>
   some d6)) := headP_of [] (by kernel_rfl)
theorem call_l03_Heavy (x0 : DV) {d : DV} (h : P_l03_Heavy (run cfg) x0 = some d) : (run cfg).p F_l03_Heavy [x0] = some d :=
  run_pure (fn := Tryz.f71) (c := code_l03_Heavy) (by kernel_rfl) Tryz.func71 (by kernel_rfl) ((show _ = P_l03_Heavy (run cfg) x0 by kernel_rfl).trans h)

/-! ### r08_Deep -/
noncomputable def code_r08_Deep : Code := Tryz.f72.body.getD .skip
noncomputable def P_r08_Deep (R : Orc) (x0 : DV) (x1 : DV) : Option DV := evP cfg R fl_r08_Deep (retP cfg.P Tryz.f72) [] code_r08_Deep (initSt Tryz.f72 [(x0, .val), (x1, .val)] [])
noncomputable def P_r08_Deep_4h (R : Orc) (t1 : DV) (t5 : DV) (b2 : DV) : Option DV := headP cfg R fl_r08_Deep (retP cfg.P Tryz.f72) [true, true, false, true, false] code_r08_Deep ⟨spread .undef 23 0 [(1, t1), (5, t5)], spread .val 23 0 [(2, (.loc 2 0))], spread none 23 0 [(2, some [((proj 0 b2), .val), ((proj 1 b2), .val), ((proj 2 b2), .val)])], []⟩
theorem eq_r08_Deep (R : Orc) (x0 : DV) (x1 : DV) : P_r08_Deep R x0 x1 =
  (og (isAggN 3 x0) <|
  ob (dBin .leq x1 (.int .i64 0)) fun d1 =>
  oif d1
   (some (.bool true))
   (P_r08_Deep_4h R x1 (.int .i64 0) x0)) := evP_of [] (by kernel_rfl)
theorem eq_r08_Deep_4h (R : Orc) (t1 : DV) (t5 : DV) (b2 : DV) : P_r08_Deep_4h R t1 t5 b2 =
  (ob (dLen (proj 2 b2)) fun d1 =>
  ob (dBin .lss t5 d1) fun d2 =>
  oif d2
   (ob (dIdx 3 (proj 2 b2) t5) fun d3 =>
   ob (dBin .sub t1 (.int .i64 1)) fun d4 =>
   ob (R.p F_r08_Deep [(.agg [(proj 0 d3), (proj 1 d3), (proj 2 d3)]), d4]) fun d5 =>
   oif d5
    (some (.bool true))
    (ob (dBin .add t5 (.int .i64 1)) fun d6 =>
    P_r08_Deep_4h R t1 d6 b2))
   (some (.bool false))) := headP_of [] (by kernel_rfl)
theorem call_r08_Deep (x0 : DV) (x1 : DV) {d : DV} (h : P_r08_Deep (run cfg) x0 x1 = some d) : (run cfg).p F_r08_Deep [x0, x1] = some d :=
  run_pure (fn := Tryz.f72) (c := code_r08_Deep) (by kernel_rfl) Tryz.func72 (by kernel_rfl) ((show _ = P_r08_Deep (run cfg) x0 x1 by kernel_rfl).trans h)

/-! ### r03_Vars -/
noncomputable def code_r03_Vars : Code := Tryz.f73.body.getD .skip
noncomputable def P_r03_Vars (R : Orc) (x0 : DV) : Option DV := evP cfg R fl_r03_Vars (retP cfg.P Tryz.f73) [] code_r03_Vars (initSt Tryz.f73 [(x0, .val)] [])
theorem eq_r03_Vars (R : Orc) (x0 : DV) : P_r03_Vars R x0 =
  (og (isAggN 3 x0) <|
  ob (R.r F_r03_vars [((.agg [(proj 0 x0), (proj 1 x0), (proj 2 x0)]), .val), ((.list 1 []), .own)] []) fun q1 =>
  some (q1.1.getD 0 .undef)) := evP_of [] (by kernel_rfl)
theorem call_r03_Vars (x0 : DV) {d : DV} (h : P_r03_Vars (run cfg) x0 = some d) : (run cfg).p F_r03_Vars [x0] = some d :=
  run_pure (fn := Tryz.f73) (c := code_r03_Vars) (by kernel_rfl) Tryz.func73 (by kernel_rfl) ((show _ = P_r03_Vars (run cfg) x0 by kernel_rfl).trans h)

/-! ### r03_Kids -/
noncomputable def code_r03_Kids : Code := Tryz.f74.body.getD .skip
noncomputable def P_r03_Kids (R : Orc) (x0 : DV) : Option DV := evP cfg R fl_r03_Kids (retP cfg.P Tryz.f74) [] code_r03_Kids (initSt Tryz.f74 [(x0, .val)] [])
theorem eq_r03_Kids (R : Orc) (x0 : DV) : P_r03_Kids R x0 =
  (ob (dBin .eql x0 (.int .i64 1)) fun d1 =>
  oif d1
   (some (.int .i64 0))
   (ob (dBin .eql x0 (.int .i64 2)) fun d2 =>
   oif d2
    (some (.int .i64 0))
    (ob (dBin .eql x0 (.int .i64 3)) fun d3 =>
    oif d3
     (some (.int .i64 0))
     (ob (dBin .eql x0 (.int .i64 4)) fun d4 =>
     oif d4
      (some (.int .i64 0))
      (ob (dBin .eql x0 (.int .i64 5)) fun d5 =>
      oif d5
       (some (.int .i64 0))
       (ob (dBin .eql x0 (.int .i64 6)) fun d6 =>
       oif d6
        (some (.int .i64 0))
        (ob (dBin .eql x0 (.int .i64 8)) fun d7 =>
        oif d7
         (some (.int .i64 1))
         (ob (dBin .eql x0 (.int .i64 7)) fun d8 =>
         oif d8
          (some (.int .i64 2))
          (ob (dBin .eql x0 (.int .i64 9)) fun d9 =>
          oif d9
           (some (.int .i64 2))
           (some (.int .i64 (-1)))))))))))) := evP_of [] (by kernel_rfl)
theorem call_r03_Kids (x0 : DV) {d : DV} (h : P_r03_Kids (run cfg) x0 = some d) : (run cfg).p F_r03_Kids [x0] = some d :=
  run_pure (fn := Tryz.f74) (c := code_r03_Kids) (by kernel_rfl) Tryz.func74 (by kernel_rfl) ((show _ = P_r03_Kids (run cfg) x0 by kernel_rfl).trans h)

/-! ### term_right -/
noncomputable def code_term_right : Code := Tryz.f75.body.getD .skip
noncomputable def P_term_right (R : Orc) (x0 : DV) : Option DV := evP cfg R fl_term_right (retP cfg.P Tryz.f75) [] code_term_right (initSt Tryz.f75 [(x0, .val)] [])
noncomputable def P_term_right_4h (R : Orc) (t9 : DV) (t10 : DV) (t11 : DV) : Option DV := headP cfg R fl_term_right (retP cfg.P Tryz.f75) [true, true, false, true, false] code_term_right ⟨spread .undef 19 0 [(9, t9), (10, t10), (11, t11)], spread .val 19 0 [], spread none 19 0 [], []⟩
theorem eq_term_right (R : Orc) (x0 : DV) : P_term_right R x0 =
  (og (isAggN 20 x0) <|
  ob (R.p F_term_one [(.agg [(proj 0 x0), (proj 1 x0), (proj 2 x0), (proj 3 x0), (proj 4 x0), (proj 5 x0), (proj 6 x0), (proj 7 x0), (proj 8 x0), (proj 9 x0), (proj 10 x0), (proj 11 x0), (proj 12 x0), (proj 13 x0), (proj 14 x0), (proj 15 x0), (proj 16 x0), (proj 17 x0), (proj 18 x0), (proj 19 x0)])]) fun d1 =>
  ob (dUn .not d1) fun d2 =>
  oif d2
   (some (.bool false))
   (ob (dLen (proj 19 x0)) fun d3 =>
   P_term_right_4h R (proj 19 x0) d3 (.int .i64 0))) := evP_of [] (by kernel_rfl)
theorem eq_term_right_4h (R : Orc) (t9 : DV) (t10 : DV) (t11 : DV) : P_term_right_4h R t9 t10 t11 =
  (ob (dBin .lss t11 t10) fun d1 =>
  oif d1
   (ob (dIdx 20 t9 t11) fun d2 =>
   ob (R.p F_term_right [(.agg [(proj 0 d2), (proj 1 d2), (proj 2 d2), (proj 3 d2), (proj 4 d2), (proj 5 d2), (proj 6 d2), (proj 7 d2), (proj 8 d2), (proj 9 d2), (proj 10 d2), (proj 11 d2), (proj 12 d2), (proj 13 d2), (proj 14 d2), (proj 15 d2), (proj 16 d2), (proj 17 d2), (proj 18 d2), (proj 19 d2)])]) fun d3 =>
   ob (dUn .not d3) fun d4 =>
   oif d4
    (some (.bool false))
    (ob (dBin .add t11 (.int .i64 1)) fun d5 =>
    P_term_right_4h R t9 t10 d5))
   (some (.bool true))) := headP_of [] (by kernel_rfl)
theorem call_term_right (x0 : DV) {d : DV} (h : P_term_right (run cfg) x0 = some d) : (run cfg).p F_term_right [x0] = some d :=
  run_pure (fn := Tryz.f75) (c := code_term_right) (by kernel_rfl) Tryz.func75 (by kernel_rfl) ((show _ = P_term_right (run cfg) x0 by kernel_rfl).trans h)

/-! ### typ_Check -/
noncomputable def code_typ_Check : Code := Tryz.f78.body.getD .skip
noncomputable def P_typ_Check (R : Orc) (x0 : DV) : Option DV := evP cfg R fl_typ_Check (retP cfg.P Tryz.f78) [] code_typ_Check (initSt Tryz.f78 [(x0, .val)] [])
theorem eq_typ_Check (R : Orc) (x0 : DV) : P_typ_Check R x0 =
  (og (isAggN 3 x0) <|
  ob (R.p F_typ_right [(.agg [(proj 0 x0), (proj 1 x0), (proj 2 x0)])]) fun d1 =>
  ob (dUn .not d1) fun d2 =>
  oif d2
   (some (.int .i64 1))
   (some (.int .i64 0))) := evP_of [] (by kernel_rfl)
theorem call_typ_Check (x0 : DV) {d : DV} (h : P_typ_Check (run cfg) x0 = some d) : (run cfg).p F_typ_Check [x0] = some d :=
  run_pure (fn := Tryz.f78) (c := code_typ_Check) (by kernel_rfl) Tryz.func78 (by kernel_rfl) ((show _ = P_typ_Check (run cfg) x0 by kernel_rfl).trans h)

/-! ### scheme_put -/
noncomputable def code_scheme_put : Code := Tryz.f79.body.getD .skip
noncomputable def P_scheme_put (R : Orc) (x0 : DV) (x1 : DV) (x2 : Nat) (sg : List SObj) : Option (List DV × List SObj) := evP cfg R fl_scheme_put (retR cfg.P Tryz.f79 sig_scheme_put) [] code_scheme_put (initSt Tryz.f79 [(x0, .val), (x1, .val), (.undef, (.map x2))] sg)
noncomputable def P_scheme_put_10h (R : Orc) (t1 : DV) (t2i : Nat) (t38 : DV) (t39 : DV) (t40 : DV) (b6_0 : DV) (b6_1 : DV) (b6_2 : DV) (b9_0 : DV) (b9_1 : DV) (b9_2 : DV) (sg : List SObj) : Option (List DV × List SObj) := headP cfg R fl_scheme_put (retR cfg.P Tryz.f79 sig_scheme_put) [true, true, true, true, false, true, false] code_scheme_put ⟨spread .undef 55 0 [(1, t1), (38, t38), (39, t39), (40, t40)], spread .val 55 0 [(2, (.map t2i)), (6, (.loc 6 0)), (9, (.loc 9 0))], spread none 55 0 [(6, some [(b6_0, .val), (b6_1, .val), (b6_2, .val)]), (9, some [(b9_0, .val), (b9_1, .val), (b9_2, .own)])], sg⟩
theorem eq_scheme_put (R : Orc) (x0 : DV) (x1 : DV) (x2 : Nat) (sg : List SObj) : P_scheme_put R x0 x1 x2 sg =
  (og (isAggN 3 x0) <|
  ob (dBin .eql (proj 0 x0) (.int .i64 6)) fun d1 =>
  oif d1
   (og (isKey false (proj 1 x0) && true) <|
   ob (sgMap sg x2) fun m2 =>
   og (m2.1 == false) <|
   oif (.bool (mGet m2.2 (proj 1 x0)).isSome)
    (ob (dIdx 4 x1 ((mGet m2.2 (proj 1 x0)).getD (.int .i64 0))) fun d3 =>
    some ([(.agg [(proj 1 d3), (proj 2 d3), (proj 3 d3)])], sg))
    (some ([(.agg [(proj 0 x0), (proj 1 x0), (proj 2 x0)])], sg)))
   (ob (dLen (proj 2 x0)) fun d4 =>
   ob (dBin .eql d4 (.int .i64 0)) fun d5 =>
   oif d5
    (some ([(.agg [(proj 0 x0), (proj 1 x0), (proj 2 x0)])], sg))
    (og (isCell (proj 0 x0)) <|
    ob (dLen (proj 2 x0)) fun d6 =>
    P_scheme_put_10h R x1 x2 (proj 2 x0) d6 (.int .i64 0) (.int .i64 0) (.int .i64 0) (.list 3 []) (proj 0 x0) (.int .i64 0) (.list 3 []) sg))) := evP_of [] (by kernel_rfl)
theorem eq_scheme_put_10h (R : Orc) (t1 : DV) (t2i : Nat) (t38 : DV) (t39 : DV) (t40 : DV) (b6_0 : DV) (b6_1 : DV) (b6_2 : DV) (b9_0 : DV) (b9_1 : DV) (b9_2 : DV) (sg : List SObj) : P_scheme_put_10h R t1 t2i t38 t39 t40 b6_0 b6_1 b6_2 b9_0 b9_1 b9_2 sg =
  (ob (dBin .lss t40 t39) fun d1 =>
  oif d1
   (ob (dIdx 3 t38 t40) fun d2 =>
   ob (R.r F_scheme_put [((.agg [(proj 0 d2), (proj 1 d2), (proj 2 d2)]), .val), (t1, .val), (.undef, (.map t2i))] sg) fun q3 =>
   og (isAggN 3 (q3.1.getD 0 .undef)) <|
   ob (dApp 3 b9_2 (.list 3 [(q3.1.getD 0 .undef)])) fun d4 =>
   ob (dBin .add t40 (.int .i64 1)) fun d5 =>
   P_scheme_put_10h R t1 t2i t38 t39 d5 b6_0 b6_1 b6_2 b9_0 b9_1 d4 q3.2)
   (some ([(.agg [b9_0, b9_1, b9_2])], sg))) := headP_of [] (by kernel_rfl)
theorem call_scheme_put (x0 : DV) (x1 : DV) (x2 : Nat) (sg : List SObj) {q : List DV × List SObj} (h : P_scheme_put (run cfg) x0 x1 x2 sg = some q) : (run cfg).r F_scheme_put [(x0, .val), (x1, .val), (.undef, (.map x2))] sg = some q :=
  run_raw (s := sig_scheme_put) (fn := Tryz.f79) (c := code_scheme_put) (by kernel_rfl) Tryz.func79 (by kernel_rfl) ((show _ = P_scheme_put (run cfg) x0 x1 x2 sg by kernel_rfl).trans h)

/-! ### r05_patAt -/
noncomputable def code_r05_patAt : Code := Tryz.f87.body.getD .skip
noncomputable def P_r05_patAt (R : Orc) (x0 : DV) (x1 : DV) : Option DV := evP cfg R fl_r05_patAt (retP cfg.P Tryz.f87) [] code_r05_patAt (initSt Tryz.f87 [(x0, .val), (x1, .val)] [])
noncomputable def P_r05_patAt_4h (R : Orc) (t5 : DV) (b2 : DV) (b3 : DV) : Option DV := headP cfg R fl_r05_patAt (retP cfg.P Tryz.f87) [true, true, false, true, false] code_r05_patAt ⟨spread .undef 30 0 [(5, t5)], spread .val 30 0 [(2, (.loc 2 0)), (3, (.loc 3 0))], spread none 30 0 [(2, some [((proj 0 b2), .val), ((proj 1 b2), .val), ((proj 2 b2), .val), ((proj 3 b2), .val), ((proj 4 b2), .val), ((proj 5 b2), .val), ((proj 6 b2), .val)]), (3, some [((proj 0 b3), .val), ((proj 1 b3), .val), ((proj 2 b3), .val), ((proj 3 b3), .val), ((proj 4 b3), .val), ((proj 5 b3), .val), ((proj 6 b3), .val)])], []⟩
theorem eq_r05_patAt (R : Orc) (x0 : DV) (x1 : DV) : P_r05_patAt R x0 x1 =
  (og (isAggN 7 x0) <|
  og (isAggN 7 x1) <|
  ob (dEqA [.int, .int] (.agg [(proj 1 x0), (proj 2 x0)]) (.agg [(proj 1 x1), (proj 2 x1)])) fun b1 =>
  oif (.bool !b1)
   (some (.bool false))
   (P_r05_patAt_4h R (.int .i64 0) x0 x1)) := evP_of [] (by kernel_rfl)
theorem eq_r05_patAt_4h (R : Orc) (t5 : DV) (b2 : DV) (b3 : DV) : P_r05_patAt_4h R t5 b2 b3 =
  (ob (dLen (proj 6 b2)) fun d1 =>
  ob (dBin .lss t5 d1) fun d2 =>
  oif d2
   (ob (dIdx 7 (proj 6 b2) t5) fun d3 =>
   ob (dIdx 7 (proj 6 b3) t5) fun d4 =>
   ob (R.p F_r05_patAt [(.agg [(proj 0 d3), (proj 1 d3), (proj 2 d3), (proj 3 d3), (proj 4 d3), (proj 5 d3), (proj 6 d3)]), (.agg [(proj 0 d4), (proj 1 d4), (proj 2 d4), (proj 3 d4), (proj 4 d4), (proj 5 d4), (proj 6 d4)])]) fun d5 =>
   ob (dUn .not d5) fun d6 =>
   oif d6
    (some (.bool false))
    (ob (dBin .add t5 (.int .i64 1)) fun d7 =>
    P_r05_patAt_4h R d7 b2 b3))
   (some (.bool true))) := headP_of [] (by kernel_rfl)
theorem call_r05_patAt (x0 : DV) (x1 : DV) {d : DV} (h : P_r05_patAt (run cfg) x0 x1 = some d) : (run cfg).p F_r05_patAt [x0, x1] = some d :=
  run_pure (fn := Tryz.f87) (c := code_r05_patAt) (by kernel_rfl) Tryz.func87 (by kernel_rfl) ((show _ = P_r05_patAt (run cfg) x0 x1 by kernel_rfl).trans h)

/-! ### r03_Leaf -/
noncomputable def code_r03_Leaf : Code := Tryz.f89.body.getD .skip
noncomputable def P_r03_Leaf (R : Orc) (x0 : DV) : Option DV := evP cfg R fl_r03_Leaf (retP cfg.P Tryz.f89) [] code_r03_Leaf (initSt Tryz.f89 [(x0, .val)] [])
theorem eq_r03_Leaf (R : Orc) (x0 : DV) : P_r03_Leaf R x0 =
  (og (isCell x0) <|
  some (.agg [x0, (.int .i64 0), (.list 3 [])])) := evP_of [] (by kernel_rfl)
theorem call_r03_Leaf (x0 : DV) {d : DV} (h : P_r03_Leaf (run cfg) x0 = some d) : (run cfg).p F_r03_Leaf [x0] = some d :=
  run_pure (fn := Tryz.f89) (c := code_r03_Leaf) (by kernel_rfl) Tryz.func89 (by kernel_rfl) ((show _ = P_r03_Leaf (run cfg) x0 by kernel_rfl).trans h)

/-! ### r03_Two -/
noncomputable def code_r03_Two : Code := Tryz.f91.body.getD .skip
noncomputable def P_r03_Two (R : Orc) (x0 : DV) (x1 : DV) (x2 : DV) : Option DV := evP cfg R fl_r03_Two (retP cfg.P Tryz.f91) [] code_r03_Two (initSt Tryz.f91 [(x0, .val), (x1, .val), (x2, .val)] [])
theorem eq_r03_Two (R : Orc) (x0 : DV) (x1 : DV) (x2 : DV) : P_r03_Two R x0 x1 x2 =
  (og (isAggN 3 x1) <|
  og (isAggN 3 x2) <|
  og (isCell x0) <|
  some (.agg [x0, (.int .i64 0), (.list 3 [(.agg [(proj 0 x1), (proj 1 x1), (proj 2 x1)]), (.agg [(proj 0 x2), (proj 1 x2), (proj 2 x2)])])])) := evP_of [] (by kernel_rfl)
theorem call_r03_Two (x0 : DV) (x1 : DV) (x2 : DV) {d : DV} (h : P_r03_Two (run cfg) x0 x1 x2 = some d) : (run cfg).p F_r03_Two [x0, x1, x2] = some d :=
  run_pure (fn := Tryz.f91) (c := code_r03_Two) (by kernel_rfl) Tryz.func91 (by kernel_rfl) ((show _ = P_r03_Two (run cfg) x0 x1 x2 by kernel_rfl).trans h)

/-! ### r05_RightPat -/
noncomputable def code_r05_RightPat : Code := Tryz.f93.body.getD .skip
noncomputable def P_r05_RightPat (R : Orc) (x0 : DV) : Option DV := evP cfg R fl_r05_RightPat (retP cfg.P Tryz.f93) [] code_r05_RightPat (initSt Tryz.f93 [(x0, .val)] [])
noncomputable def P_r05_RightPat_5h (R : Orc) (t3 : DV) (t4 : DV) : Option DV := headP cfg R fl_r05_RightPat (retP cfg.P Tryz.f93) [true, true, true, false, true, false] code_r05_RightPat ⟨spread .undef 24 0 [(3, t3), (4, t4)], spread .val 24 0 [], spread none 24 0 [], []⟩
theorem eq_r05_RightPat (R : Orc) (x0 : DV) : P_r05_RightPat R x0 =
  (og (isAggN 7 x0) <|
  ob (R.p F_r05_pat [(.agg [(proj 0 x0), (proj 1 x0), (proj 2 x0), (proj 3 x0), (proj 4 x0), (proj 5 x0), (proj 6 x0)])]) fun d1 =>
  ob (dUn .not d1) fun d2 =>
  oif d2
   (some (.bool false))
   (ob (R.p F_r05_Names [(.agg [(proj 0 x0), (proj 1 x0), (proj 2 x0), (proj 3 x0), (proj 4 x0), (proj 5 x0), (proj 6 x0)])]) fun d3 =>
   P_r05_RightPat_5h R d3 (.int .i64 0))) := evP_of [] (by kernel_rfl)
theorem eq_r05_RightPat_5h (R : Orc) (t3 : DV) (t4 : DV) : P_r05_RightPat_5h R t3 t4 =
  (ob (dLen t3) fun d1 =>
  ob (dBin .lss t4 d1) fun d2 =>
  oif d2
   (ob (dSlice 1 t3 none (some t4)) fun d3 =>
   ob (dIdx 1 t3 t4) fun d4 =>
   og (isLeaf d4) <|
   ob (R.p F_r05_Has [d3, d4]) fun d5 =>
   oif d5
    (some (.bool false))
    (ob (dBin .add t4 (.int .i64 1)) fun d6 =>
    P_r05_RightPat_5h R t3 d6))
   (some (.bool true))) := headP_of [] (by kernel_rfl)
theorem call_r05_RightPat (x0 : DV) {d : DV} (h : P_r05_RightPat (run cfg) x0 = some d) : (run cfg).p F_r05_RightPat [x0] = some d :=
  run_pure (fn := Tryz.f93) (c := code_r05_RightPat) (by kernel_rfl) Tryz.func93 (by kernel_rfl) ((show _ = P_r05_RightPat (run cfg) x0 by kernel_rfl).trans h)

end Go.Su
