/-
  Parts of the proof, merged: G6, T0.
-/
import Derived.Test.YtldedkgnmpmaoaaGreatP4
import Derived.Test.YtldedkgnmpmaoaaGreatP5
set_option linter.unusedVariables false
set_option linter.unusedSimpArgs false
/-
  Equations of the program's functions: by program.
-/
namespace Go.Su
open Go.Proofs
set_option linter.unusedVariables false

noncomputable def code_r05_fields : Code := Tryz.f81.body.getD .skip
noncomputable def P_r05_fields (R : Orc) (x0 : DV) : Option DV := evP cfg R fl_r05_fields (retP cfg.P Tryz.f81) [] code_r05_fields (initSt Tryz.f81 [(x0, .val)] [])
noncomputable def P_r05_fields_20 (R : Orc) (b1 : DV) (b2_0 : DV) (b2_1 : DV) (b2_2 : DV) (b2_3 : DV) (b2_4 : DV) (b2_5 : DV) (b2_6 : DV) (b2_7 : DV) (b2_8 : DV) (b2_9 : DV) (b2_10 : DV) (b2_11 : DV) (b2_12 : DV) (b2_13 : DV) (b2_14 : DV) (b2_15 : DV) (b4_0 : DV) (b4_1 : DV) (b4_2 : DV) (b4_3 : DV) (b4_4 : DV) (b4_5 : DV) (b4_6 : DV) (b4_7 : DV) (b4_8 : DV) (b4_9 : DV) (b4_10 : DV) (b4_11 : DV) (b4_12 : DV) (b4_13 : DV) (b4_14 : DV) (b4_15 : DV) : Option DV := evP cfg R fl_r05_fields (retP cfg.P Tryz.f81) [true, true, true, false, true, false, true, true, true, true, true, true, true, true, true, true, true, false] code_r05_fields ⟨spread .undef 85 0 [], spread .val 85 0 [(1, (.loc 1 0)), (2, (.loc 2 0)), (4, (.loc 4 0))], spread none 85 0 [(1, some [((proj 0 b1), .val), ((proj 1 b1), .val), ((proj 2 b1), .val), ((proj 3 b1), .val), ((proj 4 b1), .val), ((proj 5 b1), .val), ((proj 6 b1), .val), ((proj 7 b1), .val), ((proj 8 b1), .val), ((proj 9 b1), .val), ((proj 10 b1), .val), ((proj 11 b1), .val), ((proj 12 b1), .val), ((proj 13 b1), .val), ((proj 14 b1), .val), ((proj 15 b1), .val)]), (2, some [(b2_0, .val), (b2_1, .val), (b2_2, .val), (b2_3, .val), (b2_4, .val), (b2_5, .val), (b2_6, .val), (b2_7, .val), (b2_8, .val), (b2_9, .val), (b2_10, .val), (b2_11, .val), (b2_12, .val), (b2_13, .val), (b2_14, .val), (b2_15, .val)]), (4, some [(b4_0, .val), (b4_1, .val), (b4_2, .val), (b4_3, .val), (b4_4, .val), (b4_5, .val), (b4_6, .val), (b4_7, .val), (b4_8, .val), (b4_9, .val), (b4_10, .val), (b4_11, .val), (b4_12, .val), (b4_13, .val), (b4_14, .val), (b4_15, .val)])], []⟩
set_option maxRecDepth 100000 in
theorem eq_r05_fields (R : Orc) (x0 : DV) : P_r05_fields R x0 =
  (og (isAggN 16 x0) <|
  og (isCell (proj 0 x0)) <|
  ob (dBin .eql (proj 0 x0) (.int .i64 1)) fun d1 =>
  oif d1
   (og (isCell (proj 3 x0)) <|
   some (.tup [(.agg [(proj 0 x0), (.int .i64 0), (.int .i64 0), (proj 3 x0), (.str ⟨#[]⟩), (.int .i64 0), (.str ⟨#[]⟩), (.int .i64 0), (.int .i64 0), (.int .i64 0), (.list 3 []), (.int .i64 0), (.int .i64 0), (.list 3 []), (.list 7 []), (.list 16 [])]), (.int .i64 0)]))
   (ob (dBin .eql (proj 0 x0) (.int .i64 2)) fun d2 =>
   oif d2
    (og (isCell (proj 5 x0)) <|
    some (.tup [(.agg [(proj 0 x0), (.int .i64 0), (.int .i64 0), (.str ⟨#[]⟩), (.str ⟨#[]⟩), (proj 5 x0), (.str ⟨#[]⟩), (.int .i64 0), (.int .i64 0), (.int .i64 0), (.list 3 []), (.int .i64 0), (.int .i64 0), (.list 3 []), (.list 7 []), (.list 16 [])]), (.int .i64 0)]))
    (ob (dBin .eql (proj 0 x0) (.int .i64 3)) fun d3 =>
    oif d3
     (og (isCell (proj 5 x0)) <|
     some (.tup [(.agg [(proj 0 x0), (.int .i64 0), (.int .i64 0), (.str ⟨#[]⟩), (.str ⟨#[]⟩), (proj 5 x0), (.str ⟨#[]⟩), (.int .i64 0), (.int .i64 0), (.int .i64 0), (.list 3 []), (.int .i64 0), (.int .i64 0), (.list 3 []), (.list 7 []), (.list 16 [])]), (.int .i64 0)]))
     (ob (dBin .eql (proj 0 x0) (.int .i64 4)) fun d4 =>
     oif d4
      (og (isCell (proj 6 x0)) <|
      some (.tup [(.agg [(proj 0 x0), (.int .i64 0), (.int .i64 0), (.str ⟨#[]⟩), (.str ⟨#[]⟩), (.int .i64 0), (proj 6 x0), (.int .i64 0), (.int .i64 0), (.int .i64 0), (.list 3 []), (.int .i64 0), (.int .i64 0), (.list 3 []), (.list 7 []), (.list 16 [])]), (.int .i64 0)]))
      (ob (dBin .eql (proj 0 x0) (.int .i64 5)) fun d5 =>
      oif d5
       (some (.tup [(.agg [(proj 0 x0), (.int .i64 0), (.int .i64 0), (.str ⟨#[]⟩), (.str ⟨#[]⟩), (.int .i64 0), (.str ⟨#[]⟩), (.int .i64 0), (.int .i64 0), (.int .i64 0), (.list 3 []), (.int .i64 0), (.int .i64 0), (.list 3 []), (.list 7 []), (.list 16 [])]), (.int .i64 0)]))
       (ob (dBin .eql (proj 0 x0) (.int .i64 7)) fun d6 =>
       oif d6
        (some (.tup [(.agg [(proj 0 x0), (.int .i64 0), (.int .i64 0), (.str ⟨#[]⟩), (.str ⟨#[]⟩), (.int .i64 0), (.str ⟨#[]⟩), (.int .i64 0), (.int .i64 0), (.int .i64 0), (.list 3 []), (.int .i64 0), (.int .i64 0), (.list 3 []), (.list 7 []), (.list 16 [])]), (.int .i64 0)]))
        (ob (dBin .eql (proj 0 x0) (.int .i64 6)) fun d7 =>
        oif d7
         (some (.tup [(.agg [(proj 0 x0), (.int .i64 0), (.int .i64 0), (.str ⟨#[]⟩), (.str ⟨#[]⟩), (.int .i64 0), (.str ⟨#[]⟩), (.int .i64 0), (.int .i64 0), (.int .i64 0), (.list 3 []), (.int .i64 0), (.int .i64 0), (.list 3 []), (.list 7 []), (.list 16 [])]), (.int .i64 2)]))
         (ob (dBin .eql (proj 0 x0) (.int .i64 8)) fun d8 =>
         oif d8
          (some (.tup [(.agg [(proj 0 x0), (.int .i64 0), (.int .i64 0), (.str ⟨#[]⟩), (.str ⟨#[]⟩), (.int .i64 0), (.str ⟨#[]⟩), (.int .i64 0), (.int .i64 0), (.int .i64 0), (.list 3 []), (.int .i64 0), (.int .i64 0), (.list 3 []), (.list 7 []), (.list 16 [])]), (.int .i64 2)]))
          (ob (dBin .eql (proj 0 x0) (.int .i64 10)) fun d9 =>
          oif d9
           (some (.tup [(.agg [(proj 0 x0), (.int .i64 0), (.int .i64 0), (.str ⟨#[]⟩), (.str ⟨#[]⟩), (.int .i64 0), (.str ⟨#[]⟩), (.int .i64 0), (.int .i64 0), (.int .i64 0), (.list 3 []), (.int .i64 0), (.int .i64 0), (.list 3 []), (.list 7 []), (.list 16 [])]), (.int .i64 2)]))
           (ob (dBin .eql (proj 0 x0) (.int .i64 9)) fun d10 =>
           oif d10
            (P_r05_fields_20 R x0 (.int .i64 0) (.int .i64 0) (.int .i64 0) (.str ⟨#[]⟩) (.str ⟨#[]⟩) (.int .i64 0) (.str ⟨#[]⟩) (.int .i64 0) (.int .i64 0) (.int .i64 0) (.list 3 []) (.int .i64 0) (.int .i64 0) (.list 3 []) (.list 7 []) (.list 16 []) (proj 0 x0) (.int .i64 0) (.int .i64 0) (.str ⟨#[]⟩) (.str ⟨#[]⟩) (.int .i64 0) (.str ⟨#[]⟩) (.int .i64 0) (.int .i64 0) (.int .i64 0) (.list 3 []) (.int .i64 0) (.int .i64 0) (.list 3 []) (.list 7 []) (.list 16 []))
            (ob (dBin .eql (proj 0 x0) (.int .i64 11)) fun d11 =>
            oif d11
             (P_r05_fields_20 R x0 (.int .i64 0) (.int .i64 0) (.int .i64 0) (.str ⟨#[]⟩) (.str ⟨#[]⟩) (.int .i64 0) (.str ⟨#[]⟩) (.int .i64 0) (.int .i64 0) (.int .i64 0) (.list 3 []) (.int .i64 0) (.int .i64 0) (.list 3 []) (.list 7 []) (.list 16 []) (proj 0 x0) (.int .i64 0) (.int .i64 0) (.str ⟨#[]⟩) (.str ⟨#[]⟩) (.int .i64 0) (.str ⟨#[]⟩) (.int .i64 0) (.int .i64 0) (.int .i64 0) (.list 3 []) (.int .i64 0) (.int .i64 0) (.list 3 []) (.list 7 []) (.list 16 []))
             (ob (dBin .eql (proj 0 x0) (.int .i64 12)) fun d12 =>
             oif d12
              (og (isCell (proj 3 x0)) <|
              og (isCell (proj 4 x0)) <|
              some (.tup [(.agg [(proj 0 x0), (.int .i64 0), (.int .i64 0), (proj 3 x0), (proj 4 x0), (.int .i64 0), (.str ⟨#[]⟩), (.int .i64 0), (proj 8 x0), (proj 9 x0), (proj 10 x0), (proj 11 x0), (proj 12 x0), (proj 13 x0), (.list 7 []), (.list 16 [])]), (.int .i64 2)]))
              (ob (dBin .eql (proj 0 x0) (.int .i64 13)) fun d13 =>
              oif d13
               (some (.tup [(.agg [(proj 0 x0), (.int .i64 0), (.int .i64 0), (.str ⟨#[]⟩), (.str ⟨#[]⟩), (.int .i64 0), (.str ⟨#[]⟩), (.int .i64 0), (.int .i64 0), (.int .i64 0), (.list 3 []), (.int .i64 0), (.int .i64 0), (.list 3 []), (.list 7 []), (.list 16 [])]), (.int .i64 3)]))
               (ob (dBin .eql (proj 0 x0) (.int .i64 14)) fun d14 =>
               oif d14
                (ob (dLen (proj 14 x0)) fun d15 =>
                ob (dBin .add (.int .i64 1) d15) fun d16 =>
                og (isCell (proj 14 x0)) <|
                some (.tup [(.agg [(proj 0 x0), (.int .i64 0), (.int .i64 0), (.str ⟨#[]⟩), (.str ⟨#[]⟩), (.int .i64 0), (.str ⟨#[]⟩), (.int .i64 0), (.int .i64 0), (.int .i64 0), (.list 3 []), (.int .i64 0), (.int .i64 0), (.list 3 []), (proj 14 x0), (.list 16 [])]), d16]))
                (ob (dBin .eql (proj 0 x0) (.int .i64 15)) fun d17 =>
                oif d17
                 (some (.tup [(.agg [(proj 0 x0), (.int .i64 0), (.int .i64 0), (.str ⟨#[]⟩), (.str ⟨#[]⟩), (.int .i64 0), (.str ⟨#[]⟩), (.int .i64 0), (proj 8 x0), (proj 9 x0), (proj 10 x0), (.int .i64 0), (.int .i64 0), (.list 3 []), (.list 7 []), (.list 16 [])]), (.int .i64 1)]))
                 (ob (dBin .eql (proj 0 x0) (.int .i64 16)) fun d18 =>
                 oif d18
                  (og (isCell (proj 7 x0)) <|
                  some (.tup [(.agg [(proj 0 x0), (.int .i64 0), (.int .i64 0), (.str ⟨#[]⟩), (.str ⟨#[]⟩), (.int .i64 0), (.str ⟨#[]⟩), (proj 7 x0), (.int .i64 0), (.int .i64 0), (.list 3 []), (.int .i64 0), (.int .i64 0), (.list 3 []), (.list 7 []), (.list 16 [])]), (.int .i64 2)]))
                  (some (.tup [(.agg [(proj 0 x0), (.int .i64 0), (.int .i64 0), (.str ⟨#[]⟩), (.str ⟨#[]⟩), (.int .i64 0), (.str ⟨#[]⟩), (.int .i64 0), (.int .i64 0), (.int .i64 0), (.list 3 []), (.int .i64 0), (.int .i64 0), (.list 3 []), (.list 7 []), (.list 16 [])]), (.int .i64 (-1))])))))))))))))))))) := evP_of [20] (by kernel_rfl)
theorem eq_r05_fields_20 (R : Orc) (b1 : DV) (b2_0 : DV) (b2_1 : DV) (b2_2 : DV) (b2_3 : DV) (b2_4 : DV) (b2_5 : DV) (b2_6 : DV) (b2_7 : DV) (b2_8 : DV) (b2_9 : DV) (b2_10 : DV) (b2_11 : DV) (b2_12 : DV) (b2_13 : DV) (b2_14 : DV) (b2_15 : DV) (b4_0 : DV) (b4_1 : DV) (b4_2 : DV) (b4_3 : DV) (b4_4 : DV) (b4_5 : DV) (b4_6 : DV) (b4_7 : DV) (b4_8 : DV) (b4_9 : DV) (b4_10 : DV) (b4_11 : DV) (b4_12 : DV) (b4_13 : DV) (b4_14 : DV) (b4_15 : DV) : P_r05_fields_20 R b1 b2_0 b2_1 b2_2 b2_3 b2_4 b2_5 b2_6 b2_7 b2_8 b2_9 b2_10 b2_11 b2_12 b2_13 b2_14 b2_15 b4_0 b4_1 b4_2 b4_3 b4_4 b4_5 b4_6 b4_7 b4_8 b4_9 b4_10 b4_11 b4_12 b4_13 b4_14 b4_15 =
  (og (isCell (proj 3 b1)) <|
  ob (dBin .sub (proj 0 b1) (.int .i64 9)) fun d1 =>
  ob (dBin .quo d1 (.int .i64 2)) fun d2 =>
  ob (dBin .add (.int .i64 1) d2) fun d3 =>
  some (.tup [(.agg [b4_0, b4_1, b4_2, (proj 3 b1), b4_4, b4_5, b4_6, b4_7, (proj 8 b1), (proj 9 b1), (proj 10 b1), b4_11, b4_12, b4_13, b4_14, b4_15]), d3])) := evP_of [20] (by kernel_rfl)
theorem fix_r05_fields (x0 : DV) : (run cfg).p F_r05_fields [x0] = P_r05_fields (run cfg) x0 :=
  (fix_pure (C := cfg) (f := F_r05_fields) (fn := Tryz.f81) (c := code_r05_fields) (by kernel_rfl) Tryz.func81 (by kernel_rfl)).trans (by kernel_rfl)
theorem call_r05_fields (x0 : DV) {d : DV} (h : P_r05_fields (run cfg) x0 = some d) : (run cfg).p F_r05_fields [x0] = some d := (fix_r05_fields x0).trans h

noncomputable def code_r01_Name : Code := Tryz.f82.body.getD .skip
noncomputable def P_r01_Name (R : Orc) (x0 : DV) : Option DV := evP cfg R fl_r01_Name (retP cfg.P Tryz.f82) [] code_r01_Name (initSt Tryz.f82 [(x0, .val)] [])
noncomputable def P_r01_Name_4h (R : Orc) (t0 : DV) (t3 : DV) : Option DV := headP cfg R fl_r01_Name (retP cfg.P Tryz.f82) [true, true, false, true, false] code_r01_Name ⟨spread .undef 32 0 [(0, t0), (3, t3)], spread .val 32 0 [], spread none 32 0 [], []⟩
theorem eq_r01_Name (R : Orc) (x0 : DV) : P_r01_Name R x0 =
  (ob (dLenS x0) fun d1 =>
  ob (dBin .lss d1 (.int .i64 1)) fun d2 =>
  ogd d2
   (some (.bool false))
   (ob (dLenS x0) fun d3 =>
   ob (dBin .gtr d3 (.int .i64 32)) fun d4 =>
   ogd d4
    (some (.bool false))
    (ob (dStrIdx x0 (.int .i64 0)) fun d5 =>
    ob (R.p F_r01_lower [d5]) fun d6 =>
    ob (dUn .not d6) fun d7 =>
    oif d7
     (some (.bool false))
     (P_r01_Name_4h R x0 (.int .i64 0)))
    none)
   none) := evP_of [] (by kernel_rfl)
theorem eq_r01_Name_4h (R : Orc) (t0 : DV) (t3 : DV) : P_r01_Name_4h R t0 t3 =
  (ob (dLenS t0) fun d1 =>
  ob (dBin .lss t3 d1) fun d2 =>
  oif d2
   (ob (dStrIdx t0 t3) fun d3 =>
   ob (R.p F_r01_part [d3]) fun d4 =>
   ob (dUn .not d4) fun d5 =>
   oif d5
    (some (.bool false))
    (ob (dBin .add t3 (.int .i64 1)) fun d6 =>
    P_r01_Name_4h R t0 d6))
   (ob (R.p F_r01_Key [t0]) fun d7 =>
   ob (dUn .not d7) fun d8 =>
   some d8)) := headP_of [] (by kernel_rfl)
theorem fix_r01_Name (x0 : DV) : (run cfg).p F_r01_Name [x0] = P_r01_Name (run cfg) x0 :=
  (fix_pure (C := cfg) (f := F_r01_Name) (fn := Tryz.f82) (c := code_r01_Name) (by kernel_rfl) Tryz.func82 (by kernel_rfl)).trans (by kernel_rfl)
theorem call_r01_Name (x0 : DV) {d : DV} (h : P_r01_Name (run cfg) x0 = some d) : (run cfg).p F_r01_Name [x0] = some d := (fix_r01_Name x0).trans h

noncomputable def code_r05_pat : Code := Tryz.f83.body.getD .skip
noncomputable def P_r05_pat (R : Orc) (x0 : DV) : Option DV := evP cfg R fl_r05_pat (retP cfg.P Tryz.f83) [] code_r05_pat (initSt Tryz.f83 [(x0, .val)] [])
noncomputable def P_r05_pat_25 (R : Orc) (t3 : DV) (b1 : DV) (b4_0 : DV) (b4_1 : DV) (b4_2 : DV) (b4_3 : DV) (b4_4 : DV) (b4_5 : DV) (b4_6 : DV) : Option DV := evP cfg R fl_r05_pat (retP cfg.P Tryz.f83) [true, true, true, true] code_r05_pat ⟨spread .undef 92 0 [(3, t3)], spread .val 92 0 [(1, (.loc 1 0)), (4, (.loc 4 0))], spread none 92 0 [(1, some [((proj 0 b1), .val), ((proj 1 b1), .val), ((proj 2 b1), .val), ((proj 3 b1), .val), ((proj 4 b1), .val), ((proj 5 b1), .val), ((proj 6 b1), .val)]), (4, some [(b4_0, .val), (b4_1, .val), (b4_2, .val), (b4_3, .val), (b4_4, .val), (b4_5, .val), (b4_6, .val)])], []⟩
noncomputable def P_r05_pat_28h (R : Orc) (t3 : DV) (t5 : DV) (b1 : DV) : Option DV := headP cfg R fl_r05_pat (retP cfg.P Tryz.f83) [true, true, true, true, true, false, true, false] code_r05_pat ⟨spread .undef 92 0 [(3, t3), (5, t5)], spread .val 92 0 [(1, (.loc 1 0))], spread none 92 0 [(1, some [((proj 0 b1), .val), ((proj 1 b1), .val), ((proj 2 b1), .val), ((proj 3 b1), .val), ((proj 4 b1), .val), ((proj 5 b1), .val), ((proj 6 b1), .val)])], []⟩
set_option maxRecDepth 100000 in
theorem eq_r05_pat (R : Orc) (x0 : DV) : P_r05_pat R x0 =
  (og (isAggN 7 x0) <|
  og (isCell (proj 0 x0)) <|
  ob (dBin .eql (proj 0 x0) (.int .i64 1)) fun d1 =>
  oif d1
   (P_r05_pat_25 R (.int .i64 0) x0 (proj 0 x0) (.int .i64 0) (.int .i64 0) (.str ⟨#[]⟩) (.int .i64 0) (.str ⟨#[]⟩) (.list 7 []))
   (ob (dBin .eql (proj 0 x0) (.int .i64 6)) fun d2 =>
   oif d2
    (P_r05_pat_25 R (.int .i64 0) x0 (proj 0 x0) (.int .i64 0) (.int .i64 0) (.str ⟨#[]⟩) (.int .i64 0) (.str ⟨#[]⟩) (.list 7 []))
    (ob (dBin .eql (proj 0 x0) (.int .i64 8)) fun d3 =>
    oif d3
     (P_r05_pat_25 R (.int .i64 0) x0 (proj 0 x0) (.int .i64 0) (.int .i64 0) (.str ⟨#[]⟩) (.int .i64 0) (.str ⟨#[]⟩) (.list 7 []))
     (ob (dBin .eql (proj 0 x0) (.int .i64 2)) fun d4 =>
     oif d4
      (og (isCell (proj 3 x0)) <|
      ob (R.p F_r01_Name [(proj 3 x0)]) fun d5 =>
      ob (dUn .not d5) fun d6 =>
      oif d6
       (some (.bool false))
       (P_r05_pat_25 R (.int .i64 0) x0 (proj 0 x0) (.int .i64 0) (.int .i64 0) (proj 3 x0) (.int .i64 0) (.str ⟨#[]⟩) (.list 7 [])))
      (ob (dBin .eql (proj 0 x0) (.int .i64 3)) fun d7 =>
      oif d7
       (og (isCell (proj 4 x0)) <|
       P_r05_pat_25 R (.int .i64 0) x0 (proj 0 x0) (.int .i64 0) (.int .i64 0) (.str ⟨#[]⟩) (proj 4 x0) (.str ⟨#[]⟩) (.list 7 []))
       (ob (dBin .eql (proj 0 x0) (.int .i64 4)) fun d8 =>
       oif d8
        (og (isCell (proj 4 x0)) <|
        ob (dBin .lss (proj 4 x0) (.int .i64 0)) fun d9 =>
        ogd d9
         (some (.bool false))
         (ob (dBin .gtr (proj 4 x0) (.int .i64 1)) fun d10 =>
         oif d10
          (some (.bool false))
          (P_r05_pat_25 R (.int .i64 0) x0 (proj 0 x0) (.int .i64 0) (.int .i64 0) (.str ⟨#[]⟩) (proj 4 x0) (.str ⟨#[]⟩) (.list 7 [])))
         none)
        (ob (dBin .eql (proj 0 x0) (.int .i64 5)) fun d11 =>
        oif d11
         (og (isCell (proj 5 x0)) <|
         ob (dLenS (proj 5 x0)) fun d12 =>
         ob (dBin .gtr d12 (.int .i64 200)) fun d13 =>
         oif d13
          (some (.bool false))
          (P_r05_pat_25 R (.int .i64 0) x0 (proj 0 x0) (.int .i64 0) (.int .i64 0) (.str ⟨#[]⟩) (.int .i64 0) (proj 5 x0) (.list 7 [])))
         (ob (dBin .eql (proj 0 x0) (.int .i64 7)) fun d14 =>
         oif d14
          (P_r05_pat_25 R (.int .i64 2) x0 (proj 0 x0) (.int .i64 0) (.int .i64 0) (.str ⟨#[]⟩) (.int .i64 0) (.str ⟨#[]⟩) (.list 7 []))
          (ob (dBin .eql (proj 0 x0) (.int .i64 9)) fun d15 =>
          oif d15
           (P_r05_pat_25 R (.int .i64 2) x0 (proj 0 x0) (.int .i64 0) (.int .i64 0) (.str ⟨#[]⟩) (.int .i64 0) (.str ⟨#[]⟩) (.list 7 []))
           (some (.bool false))))))))))) := evP_of [25] (by kernel_rfl)
set_option maxRecDepth 100000 in
theorem eq_r05_pat_25 (R : Orc) (t3 : DV) (b1 : DV) (b4_0 : DV) (b4_1 : DV) (b4_2 : DV) (b4_3 : DV) (b4_4 : DV) (b4_5 : DV) (b4_6 : DV) : P_r05_pat_25 R t3 b1 b4_0 b4_1 b4_2 b4_3 b4_4 b4_5 b4_6 =
  (ob (dLen (proj 6 b1)) fun d1 =>
  ob (dBin .neq d1 t3) fun d2 =>
  ogd d2
   (some (.bool false))
   (ob (dBin .neq (proj 3 b1) b4_3) fun d3 =>
   ogd d3
    (some (.bool false))
    (ob (dBin .neq (proj 4 b1) b4_4) fun d4 =>
    ogd d4
     (some (.bool false))
     (ob (dBin .neq (proj 5 b1) b4_5) fun d5 =>
     oif d5
      (some (.bool false))
      (P_r05_pat_28h R t3 (.int .i64 0) b1))
     none)
    none)
   none) := evP_of [25] (by kernel_rfl)
theorem eq_r05_pat_28h (R : Orc) (t3 : DV) (t5 : DV) (b1 : DV) : P_r05_pat_28h R t3 t5 b1 =
  (ob (dBin .lss t5 t3) fun d1 =>
  oif d1
   (ob (dIdx 7 (proj 6 b1) t5) fun d2 =>
   ob (R.p F_r05_pat [(.agg [(proj 0 d2), (proj 1 d2), (proj 2 d2), (proj 3 d2), (proj 4 d2), (proj 5 d2), (proj 6 d2)])]) fun d3 =>
   ob (dUn .not d3) fun d4 =>
   oif d4
    (some (.bool false))
    (ob (dBin .add t5 (.int .i64 1)) fun d5 =>
    P_r05_pat_28h R t3 d5 b1))
   (some (.bool true))) := headP_of [25] (by kernel_rfl)
theorem fix_r05_pat (x0 : DV) : (run cfg).p F_r05_pat [x0] = P_r05_pat (run cfg) x0 :=
  (fix_pure (C := cfg) (f := F_r05_pat) (fn := Tryz.f83) (c := code_r05_pat) (by kernel_rfl) Tryz.func83 (by kernel_rfl)).trans (by kernel_rfl)
theorem call_r05_pat (x0 : DV) {d : DV} (h : P_r05_pat (run cfg) x0 = some d) : (run cfg).p F_r05_pat [x0] = some d := (fix_r05_pat x0).trans h

noncomputable def code_r05_Names : Code := Tryz.f84.body.getD .skip
noncomputable def P_r05_Names (R : Orc) (x0 : DV) : Option DV := evP cfg R fl_r05_Names (retP cfg.P Tryz.f84) [] code_r05_Names (initSt Tryz.f84 [(x0, .val)] [])
theorem eq_r05_Names (R : Orc) (x0 : DV) : P_r05_Names R x0 =
  (og (isAggN 7 x0) <|
  ob (R.r F_r05_names [((.agg [(proj 0 x0), (proj 1 x0), (proj 2 x0), (proj 3 x0), (proj 4 x0), (proj 5 x0), (proj 6 x0)]), .val), ((.list 1 []), .own)] []) fun q1 =>
  some (q1.1.getD 0 .undef)) := evP_of [] (by kernel_rfl)
theorem fix_r05_Names (x0 : DV) : (run cfg).p F_r05_Names [x0] = P_r05_Names (run cfg) x0 :=
  (fix_pure (C := cfg) (f := F_r05_Names) (fn := Tryz.f84) (c := code_r05_Names) (by kernel_rfl) Tryz.func84 (by kernel_rfl)).trans (by kernel_rfl)
theorem call_r05_Names (x0 : DV) {d : DV} (h : P_r05_Names (run cfg) x0 = some d) : (run cfg).p F_r05_Names [x0] = some d := (fix_r05_Names x0).trans h

noncomputable def code_r05_Has : Code := Tryz.f85.body.getD .skip
noncomputable def P_r05_Has (R : Orc) (x0 : DV) (x1 : DV) : Option DV := evP cfg R fl_r05_Has (retP cfg.P Tryz.f85) [] code_r05_Has (initSt Tryz.f85 [(x0, .val), (x1, .val)] [])
noncomputable def P_r05_Has_2h (R : Orc) (t0 : DV) (t1 : DV) (t5 : DV) : Option DV := headP cfg R fl_r05_Has (retP cfg.P Tryz.f85) [true, false, true, false] code_r05_Has ⟨spread .undef 18 0 [(0, t0), (1, t1), (5, t5)], spread .val 18 0 [], spread none 18 0 [], []⟩
theorem eq_r05_Has (R : Orc) (x0 : DV) (x1 : DV) : P_r05_Has R x0 x1 =
  (P_r05_Has_2h R x0 x1 (.int .i64 0)) := evP_of [] (by kernel_rfl)
theorem eq_r05_Has_2h (R : Orc) (t0 : DV) (t1 : DV) (t5 : DV) : P_r05_Has_2h R t0 t1 t5 =
  (ob (dLen t0) fun d1 =>
  ob (dBin .lss t5 d1) fun d2 =>
  oif d2
   (ob (dIdx 1 t0 t5) fun d3 =>
   og (isLeaf d3) <|
   ob (dBin .eql d3 t1) fun d4 =>
   oif d4
    (some (.bool true))
    (ob (dBin .add t5 (.int .i64 1)) fun d5 =>
    P_r05_Has_2h R t0 t1 d5))
   (some (.bool false))) := headP_of [] (by kernel_rfl)
theorem fix_r05_Has (x0 : DV) (x1 : DV) : (run cfg).p F_r05_Has [x0, x1] = P_r05_Has (run cfg) x0 x1 :=
  (fix_pure (C := cfg) (f := F_r05_Has) (fn := Tryz.f85) (c := code_r05_Has) (by kernel_rfl) Tryz.func85 (by kernel_rfl)).trans (by kernel_rfl)
theorem call_r05_Has (x0 : DV) (x1 : DV) {d : DV} (h : P_r05_Has (run cfg) x0 x1 = some d) : (run cfg).p F_r05_Has [x0, x1] = some d := (fix_r05_Has x0 x1).trans h

noncomputable def code_r05_Rise : Code := Tryz.f86.body.getD .skip
noncomputable def P_r05_Rise (R : Orc) (x0 : DV) (x1 : DV) : Option DV := evP cfg R fl_r05_Rise (retP cfg.P Tryz.f86) [] code_r05_Rise (initSt Tryz.f86 [(x0, .val), (x1, .val)] [])
noncomputable def P_r05_Rise_2h (R : Orc) (t0 : DV) (t1 : DV) (t5 : DV) : Option DV := headP cfg R fl_r05_Rise (retP cfg.P Tryz.f86) [true, true, false, false] code_r05_Rise ⟨spread .undef 47 0 [(0, t0), (1, t1), (5, t5)], spread .val 47 0 [], spread none 47 0 [], []⟩
noncomputable def P_r05_Rise_4 (R : Orc) (t0 : DV) (t1 : DV) (t5 : DV) : Option DV := evP cfg R fl_r05_Rise (retP cfg.P Tryz.f86) [true, true, true] code_r05_Rise ⟨spread .undef 47 0 [(0, t0), (1, t1), (5, t5)], spread .val 47 0 [], spread none 47 0 [], []⟩
noncomputable def P_r05_Rise_6 (R : Orc) (t0 : DV) (t1 : DV) (t5 : DV) : Option DV := evP cfg R fl_r05_Rise (retP cfg.P Tryz.f86) [true, true, true, true] code_r05_Rise ⟨spread .undef 47 0 [(0, t0), (1, t1), (5, t5)], spread .val 47 0 [], spread none 47 0 [], []⟩
theorem eq_r05_Rise (R : Orc) (x0 : DV) (x1 : DV) : P_r05_Rise R x0 x1 =
  (P_r05_Rise_2h R x0 x1 (.int .i64 0)) := evP_of [4, 6] (by kernel_rfl)
theorem eq_r05_Rise_2h (R : Orc) (t0 : DV) (t1 : DV) (t5 : DV) : P_r05_Rise_2h R t0 t1 t5 =
  (ob (dLen t0) fun d1 =>
  ob (dBin .lss t5 d1) fun d2 =>
  ogd d2
   (ob (dIdx 1 t0 t5) fun d3 =>
   og (isLeaf d3) <|
   ob (dBin .lss d3 t1) fun d4 =>
   oif d4
    (ob (dBin .add t5 (.int .i64 1)) fun d5 =>
    P_r05_Rise_2h R t0 t1 d5)
    (P_r05_Rise_4 R t0 t1 t5))
   (P_r05_Rise_4 R t0 t1 t5)
   none) := headP_of [4, 6] (by kernel_rfl)
theorem eq_r05_Rise_4 (R : Orc) (t0 : DV) (t1 : DV) (t5 : DV) : P_r05_Rise_4 R t0 t1 t5 =
  (ob (dLen t0) fun d1 =>
  ob (dBin .lss t5 d1) fun d2 =>
  ogd d2
   (ob (dIdx 1 t0 t5) fun d3 =>
   og (isLeaf d3) <|
   ob (dBin .eql d3 t1) fun d4 =>
   oif d4
    (some t0)
    (P_r05_Rise_6 R t0 t1 t5))
   (P_r05_Rise_6 R t0 t1 t5)
   none) := evP_of [4, 6] (by kernel_rfl)
theorem eq_r05_Rise_6 (R : Orc) (t0 : DV) (t1 : DV) (t5 : DV) : P_r05_Rise_6 R t0 t1 t5 =
  (ob (dSlice 1 t0 none (some t5)) fun d1 =>
  ob (dApp 1 (.list 1 []) d1) fun d2 =>
  og (isCell t1) <|
  ob (dApp 1 d2 (.list 1 [t1])) fun d3 =>
  ob (dSlice 1 t0 (some t5) none) fun d4 =>
  ob (dApp 1 d3 d4) fun d5 =>
  some d5) := evP_of [4, 6] (by kernel_rfl)
theorem fix_r05_Rise (x0 : DV) (x1 : DV) : (run cfg).p F_r05_Rise [x0, x1] = P_r05_Rise (run cfg) x0 x1 :=
  (fix_pure (C := cfg) (f := F_r05_Rise) (fn := Tryz.f86) (c := code_r05_Rise) (by kernel_rfl) Tryz.func86 (by kernel_rfl)).trans (by kernel_rfl)
theorem call_r05_Rise (x0 : DV) (x1 : DV) {d : DV} (h : P_r05_Rise (run cfg) x0 x1 = some d) : (run cfg).p F_r05_Rise [x0, x1] = some d := (fix_r05_Rise x0 x1).trans h

noncomputable def code_r05_Binds : Code := Tryz.f87.body.getD .skip
noncomputable def P_r05_Binds (R : Orc) (x0 : DV) (x1 : DV) : Option DV := evP cfg R fl_r05_Binds (retP cfg.P Tryz.f87) [] code_r05_Binds (initSt Tryz.f87 [(x0, .val), (x1, .val)] [])
noncomputable def P_r05_Binds_5 (R : Orc) (t1 : DV) (b2 : DV) : Option DV := evP cfg R fl_r05_Binds (retP cfg.P Tryz.f87) [true, false, false, true, true] code_r05_Binds ⟨spread .undef 50 0 [(1, t1)], spread .val 50 0 [(2, (.loc 2 0))], spread none 50 0 [(2, some [((proj 0 b2), .val), ((proj 1 b2), .val), ((proj 2 b2), .val), ((proj 3 b2), .val), ((proj 4 b2), .val), ((proj 5 b2), .val), ((proj 6 b2), .val), ((proj 7 b2), .val), ((proj 8 b2), .val), ((proj 9 b2), .val), ((proj 10 b2), .val), ((proj 11 b2), .val), ((proj 12 b2), .val), ((proj 13 b2), .val), ((proj 14 b2), .val), ((proj 15 b2), .val)])], []⟩
set_option maxRecDepth 100000 in
theorem eq_r05_Binds (R : Orc) (x0 : DV) (x1 : DV) : P_r05_Binds R x0 x1 =
  (og (isAggN 16 x0) <|
  ob (dBin .eql (proj 0 x0) (.int .i64 9)) fun d1 =>
  oif d1
   (og (isCell (proj 3 x0)) <|
   some (.list 1 [(proj 3 x0)]))
   (ob (dBin .eql (proj 0 x0) (.int .i64 11)) fun d2 =>
   ogd d2
    (ob (dBin .eql x1 (.int .i64 1)) fun d3 =>
    oif d3
     (og (isCell (proj 3 x0)) <|
     some (.list 1 [(proj 3 x0)]))
     (ob (dBin .eql (proj 0 x0) (.int .i64 12)) fun d4 =>
     ogd d4
      (ob (dBin .eql x1 (.int .i64 1)) fun d5 =>
      oif d5
       (og (isCell (proj 3 x0)) <|
       some (.list 1 [(proj 3 x0)]))
       (P_r05_Binds_5 R x1 x0))
      (P_r05_Binds_5 R x1 x0)
      none))
    (ob (dBin .eql (proj 0 x0) (.int .i64 12)) fun d6 =>
    ogd d6
     (ob (dBin .eql x1 (.int .i64 1)) fun d7 =>
     oif d7
      (og (isCell (proj 3 x0)) <|
      some (.list 1 [(proj 3 x0)]))
      (P_r05_Binds_5 R x1 x0))
     (P_r05_Binds_5 R x1 x0)
     none)
    none)) := evP_of [5] (by kernel_rfl)
theorem eq_r05_Binds_5 (R : Orc) (t1 : DV) (b2 : DV) : P_r05_Binds_5 R t1 b2 =
  (ob (dBin .eql (proj 0 b2) (.int .i64 12)) fun d1 =>
  oif d1
   (og (isCell (proj 3 b2)) <|
   og (isCell (proj 4 b2)) <|
   some (.list 1 [(proj 3 b2), (proj 4 b2)]))
   (ob (dBin .eql (proj 0 b2) (.int .i64 14)) fun d2 =>
   ogd d2
    (ob (dBin .gtr t1 (.int .i64 0)) fun d3 =>
    oif d3
     (ob (dBin .sub t1 (.int .i64 1)) fun d4 =>
     ob (dIdx 7 (proj 14 b2) d4) fun d5 =>
     ob (R.p F_r05_Names [(.agg [(proj 0 d5), (proj 1 d5), (proj 2 d5), (proj 3 d5), (proj 4 d5), (proj 5 d5), (proj 6 d5)])]) fun d6 =>
     some d6)
     (some (.list 1 [])))
    (some (.list 1 []))
    none)) := evP_of [5] (by kernel_rfl)
theorem fix_r05_Binds (x0 : DV) (x1 : DV) : (run cfg).p F_r05_Binds [x0, x1] = P_r05_Binds (run cfg) x0 x1 :=
  (fix_pure (C := cfg) (f := F_r05_Binds) (fn := Tryz.f87) (c := code_r05_Binds) (by kernel_rfl) Tryz.func87 (by kernel_rfl)).trans (by kernel_rfl)
theorem call_r05_Binds (x0 : DV) (x1 : DV) {d : DV} (h : P_r05_Binds (run cfg) x0 x1 = some d) : (run cfg).p F_r05_Binds [x0, x1] = some d := (fix_r05_Binds x0 x1).trans h

noncomputable def code_typ_right : Code := Tryz.f88.body.getD .skip
noncomputable def P_typ_right (R : Orc) (x0 : DV) : Option DV := evP cfg R fl_typ_right (retP cfg.P Tryz.f88) [] code_typ_right (initSt Tryz.f88 [(x0, .val)] [])
noncomputable def P_typ_right_9h (R : Orc) (t33 : DV) (t34 : DV) (t35 : DV) : Option DV := headP cfg R fl_typ_right (retP cfg.P Tryz.f88) [true, true, true, true, false, true, false] code_typ_right ⟨spread .undef 43 0 [(33, t33), (34, t34), (35, t35)], spread .val 43 0 [], spread none 43 0 [], []⟩
theorem eq_typ_right (R : Orc) (x0 : DV) : P_typ_right R x0 =
  (og (isAggN 3 x0) <|
  ob (R.p F_typ_arity [(proj 0 x0)]) fun d1 =>
  ob (dBin .lss d1 (.int .i64 0)) fun d2 =>
  ogd d2
   (some (.bool false))
   (ob (dLen (proj 2 x0)) fun d3 =>
   ob (dBin .neq d3 d1) fun d4 =>
   oif d4
    (some (.bool false))
    (ob (dBin .eql (proj 0 x0) (.int .i64 6)) fun d5 =>
    oif d5
     (ob (dBin .geq (proj 1 x0) (.int .i64 0)) fun d6 =>
     ogd d6
      (ob (dBin .leq (proj 1 x0) (.int .i64 1048576)) fun d7 =>
      some d7)
      (some (.bool false))
      none)
     (ob (dBin .neq (proj 1 x0) (.int .i64 0)) fun d8 =>
     oif d8
      (some (.bool false))
      (ob (dLen (proj 2 x0)) fun d9 =>
      P_typ_right_9h R (proj 2 x0) d9 (.int .i64 0)))))
   none) := evP_of [] (by kernel_rfl)
theorem eq_typ_right_9h (R : Orc) (t33 : DV) (t34 : DV) (t35 : DV) : P_typ_right_9h R t33 t34 t35 =
  (ob (dBin .lss t35 t34) fun d1 =>
  oif d1
   (ob (dIdx 3 t33 t35) fun d2 =>
   ob (R.p F_typ_right [(.agg [(proj 0 d2), (proj 1 d2), (proj 2 d2)])]) fun d3 =>
   ob (dUn .not d3) fun d4 =>
   oif d4
    (some (.bool false))
    (ob (dBin .add t35 (.int .i64 1)) fun d5 =>
    P_typ_right_9h R t33 t34 d5))
   (some (.bool true))) := headP_of [] (by kernel_rfl)
theorem fix_typ_right (x0 : DV) : (run cfg).p F_typ_right [x0] = P_typ_right (run cfg) x0 :=
  (fix_pure (C := cfg) (f := F_typ_right) (fn := Tryz.f88) (c := code_typ_right) (by kernel_rfl) Tryz.func88 (by kernel_rfl)).trans (by kernel_rfl)
theorem call_typ_right (x0 : DV) {d : DV} (h : P_typ_right (run cfg) x0 = some d) : (run cfg).p F_typ_right [x0] = some d := (fix_typ_right x0).trans h

noncomputable def code_typ_without : Code := Tryz.f89.body.getD .skip
noncomputable def P_typ_without (R : Orc) (x0 : DV) (x1 : DV) : Option DV := evP cfg R fl_typ_without (retP cfg.P Tryz.f89) [] code_typ_without (initSt Tryz.f89 [(x0, .val), (x1, .val)] [])
noncomputable def P_typ_without_4h (R : Orc) (t1 : DV) (t12 : DV) (t13 : DV) (t14 : DV) : Option DV := headP cfg R fl_typ_without (retP cfg.P Tryz.f89) [true, true, false, true, false] code_typ_without ⟨spread .undef 23 0 [(1, t1), (12, t12), (13, t13), (14, t14)], spread .val 23 0 [], spread none 23 0 [], []⟩
theorem eq_typ_without (R : Orc) (x0 : DV) (x1 : DV) : P_typ_without R x0 x1 =
  (og (isAggN 3 x0) <|
  ob (dBin .eql (proj 0 x0) x1) fun d1 =>
  oif d1
   (some (.bool false))
   (ob (dLen (proj 2 x0)) fun d2 =>
   P_typ_without_4h R x1 (proj 2 x0) d2 (.int .i64 0))) := evP_of [] (by kernel_rfl)
theorem eq_typ_without_4h (R : Orc) (t1 : DV) (t12 : DV) (t13 : DV) (t14 : DV) : P_typ_without_4h R t1 t12 t13 t14 =
  (ob (dBin .lss t14 t13) fun d1 =>
  oif d1
   (ob (dIdx 3 t12 t14) fun d2 =>
   ob (R.p F_typ_without [(.agg [(proj 0 d2), (proj 1 d2), (proj 2 d2)]), t1]) fun d3 =>
   ob (dUn .not d3) fun d4 =>
   oif d4
    (some (.bool false))
    (ob (dBin .add t14 (.int .i64 1)) fun d5 =>
    P_typ_without_4h R t1 t12 t13 d5))
   (some (.bool true))) := headP_of [] (by kernel_rfl)
theorem fix_typ_without (x0 : DV) (x1 : DV) : (run cfg).p F_typ_without [x0, x1] = P_typ_without (run cfg) x0 x1 :=
  (fix_pure (C := cfg) (f := F_typ_without) (fn := Tryz.f89) (c := code_typ_without) (by kernel_rfl) Tryz.func89 (by kernel_rfl)).trans (by kernel_rfl)
theorem call_typ_without (x0 : DV) (x1 : DV) {d : DV} (h : P_typ_without (run cfg) x0 x1 = some d) : (run cfg).p F_typ_without [x0, x1] = some d := (fix_typ_without x0 x1).trans h

noncomputable def code_r03_Kids : Code := Tryz.f90.body.getD .skip
noncomputable def P_r03_Kids (R : Orc) (x0 : DV) : Option DV := evP cfg R fl_r03_Kids (retP cfg.P Tryz.f90) [] code_r03_Kids (initSt Tryz.f90 [(x0, .val)] [])
theorem eq_r03_Kids (R : Orc) (x0 : DV) : P_r03_Kids R x0 =
  (ob (dBin .eql x0 (.int .i64 1)) fun d1 =>
  oif d1
   (some (.int .i64 0))
   (ob (dBin .eql x0 (.int .i64 2)) fun d2 =>
   oif d2
    (some (.int .i64 0))
    (ob (dBin .eql x0 (.int .i64 3)) fun d3 =>
    oif d3
     (some (.int .i64 0))
     (ob (dBin .eql x0 (.int .i64 4)) fun d4 =>
     oif d4
      (some (.int .i64 0))
      (ob (dBin .eql x0 (.int .i64 5)) fun d5 =>
      oif d5
       (some (.int .i64 0))
       (ob (dBin .eql x0 (.int .i64 6)) fun d6 =>
       oif d6
        (some (.int .i64 0))
        (ob (dBin .eql x0 (.int .i64 8)) fun d7 =>
        oif d7
         (some (.int .i64 1))
         (ob (dBin .eql x0 (.int .i64 7)) fun d8 =>
         oif d8
          (some (.int .i64 2))
          (ob (dBin .eql x0 (.int .i64 9)) fun d9 =>
          oif d9
           (some (.int .i64 2))
           (some (.int .i64 (-1)))))))))))) := evP_of [] (by kernel_rfl)
theorem fix_r03_Kids (x0 : DV) : (run cfg).p F_r03_Kids [x0] = P_r03_Kids (run cfg) x0 :=
  (fix_pure (C := cfg) (f := F_r03_Kids) (fn := Tryz.f90) (c := code_r03_Kids) (by kernel_rfl) Tryz.func90 (by kernel_rfl)).trans (by kernel_rfl)
theorem call_r03_Kids (x0 : DV) {d : DV} (h : P_r03_Kids (run cfg) x0 = some d) : (run cfg).p F_r03_Kids [x0] = some d := (fix_r03_Kids x0).trans h

noncomputable def code_word_Key : Code := Tryz.f93.body.getD .skip
noncomputable def P_word_Key (R : Orc) (x0 : DV) : Option DV := evP cfg R fl_word_Key (retP cfg.P Tryz.f93) [] code_word_Key (initSt Tryz.f93 [(x0, .val)] [])
theorem eq_word_Key (R : Orc) (x0 : DV) : P_word_Key R x0 =
  (ob (dBin .eql x0 (.str ⟨#[108, 101, 116]⟩)) fun d1 =>
  oif d1
   (some (.bool true))
   (ob (dBin .eql x0 (.str ⟨#[114, 101, 99]⟩)) fun d2 =>
   oif d2
    (some (.bool true))
    (ob (dBin .eql x0 (.str ⟨#[105, 110]⟩)) fun d3 =>
    oif d3
     (some (.bool true))
     (ob (dBin .eql x0 (.str ⟨#[102, 117, 110]⟩)) fun d4 =>
     oif d4
      (some (.bool true))
      (ob (dBin .eql x0 (.str ⟨#[105, 102]⟩)) fun d5 =>
      oif d5
       (some (.bool true))
       (ob (dBin .eql x0 (.str ⟨#[116, 104, 101, 110]⟩)) fun d6 =>
       oif d6
        (some (.bool true))
        (ob (dBin .eql x0 (.str ⟨#[101, 108, 115, 101]⟩)) fun d7 =>
        oif d7
         (some (.bool true))
         (ob (dBin .eql x0 (.str ⟨#[109, 97, 116, 99, 104]⟩)) fun d8 =>
         oif d8
          (some (.bool true))
          (ob (dBin .eql x0 (.str ⟨#[119, 105, 116, 104]⟩)) fun d9 =>
          oif d9
           (some (.bool true))
           (ob (dBin .eql x0 (.str ⟨#[101, 110, 100]⟩)) fun d10 =>
           oif d10
            (some (.bool true))
            (ob (dBin .eql x0 (.str ⟨#[116, 114, 117, 101]⟩)) fun d11 =>
            oif d11
             (some (.bool true))
             (ob (dBin .eql x0 (.str ⟨#[102, 97, 108, 115, 101]⟩)) fun d12 =>
             oif d12
              (some (.bool true))
              (ob (dBin .eql x0 (.str ⟨#[105, 110, 116]⟩)) fun d13 =>
              oif d13
               (some (.bool true))
               (ob (dBin .eql x0 (.str ⟨#[98, 111, 111, 108]⟩)) fun d14 =>
               oif d14
                (some (.bool true))
                (ob (dBin .eql x0 (.str ⟨#[115, 116, 114, 105, 110, 103]⟩)) fun d15 =>
                oif d15
                 (some (.bool true))
                 (ob (dBin .eql x0 (.str ⟨#[117, 110, 105, 116]⟩)) fun d16 =>
                 oif d16
                  (some (.bool true))
                  (ob (dBin .eql x0 (.str ⟨#[108, 105, 115, 116]⟩)) fun d17 =>
                  oif d17
                   (some (.bool true))
                   (some (.bool false))))))))))))))))))) := evP_of [] (by kernel_rfl)
theorem fix_word_Key (x0 : DV) : (run cfg).p F_word_Key [x0] = P_word_Key (run cfg) x0 :=
  (fix_pure (C := cfg) (f := F_word_Key) (fn := Tryz.f93) (c := code_word_Key) (by kernel_rfl) Tryz.func93 (by kernel_rfl)).trans (by kernel_rfl)
theorem call_word_Key (x0 : DV) {d : DV} (h : P_word_Key (run cfg) x0 = some d) : (run cfg).p F_word_Key [x0] = some d := (fix_word_Key x0).trans h

noncomputable def code_word_inner : Code := Tryz.f94.body.getD .skip
noncomputable def P_word_inner (R : Orc) (x0 : DV) : Option DV := evP cfg R fl_word_inner (retP cfg.P Tryz.f94) [] code_word_inner (initSt Tryz.f94 [(x0, .val)] [])
set_option maxRecDepth 100000 in
theorem eq_word_inner (R : Orc) (x0 : DV) : P_word_inner R x0 =
  (ob (dBin .geq x0 (.int .u8 97)) fun d1 =>
  ogd d1
   (ob (dBin .leq x0 (.int .u8 122)) fun d2 =>
   ogd d2
    (some (.bool true))
    (ob (dBin .geq x0 (.int .u8 65)) fun d3 =>
    ogd d3
     (ob (dBin .leq x0 (.int .u8 90)) fun d4 =>
     ogd d4
      (some (.bool true))
      (ob (dBin .geq x0 (.int .u8 48)) fun d5 =>
      ogd d5
       (ob (dBin .leq x0 (.int .u8 57)) fun d6 =>
       ogd d6
        (some (.bool true))
        (ob (dBin .eql x0 (.int .u8 95)) fun d7 =>
        ogd d7
         (some (.bool true))
         (ob (dBin .eql x0 (.int .u8 39)) fun d8 =>
         some d8)
         none)
        none)
       (ob (dBin .eql x0 (.int .u8 95)) fun d9 =>
       ogd d9
        (some (.bool true))
        (ob (dBin .eql x0 (.int .u8 39)) fun d10 =>
        some d10)
        none)
       none)
      none)
     (ob (dBin .geq x0 (.int .u8 48)) fun d11 =>
     ogd d11
      (ob (dBin .leq x0 (.int .u8 57)) fun d12 =>
      ogd d12
       (some (.bool true))
       (ob (dBin .eql x0 (.int .u8 95)) fun d13 =>
       ogd d13
        (some (.bool true))
        (ob (dBin .eql x0 (.int .u8 39)) fun d14 =>
        some d14)
        none)
       none)
      (ob (dBin .eql x0 (.int .u8 95)) fun d15 =>
      ogd d15
       (some (.bool true))
       (ob (dBin .eql x0 (.int .u8 39)) fun d16 =>
       some d16)
       none)
      none)
     none)
    none)
   (ob (dBin .geq x0 (.int .u8 65)) fun d17 =>
   ogd d17
    (ob (dBin .leq x0 (.int .u8 90)) fun d18 =>
    ogd d18
     (some (.bool true))
     (ob (dBin .geq x0 (.int .u8 48)) fun d19 =>
     ogd d19
      (ob (dBin .leq x0 (.int .u8 57)) fun d20 =>
      ogd d20
       (some (.bool true))
       (ob (dBin .eql x0 (.int .u8 95)) fun d21 =>
       ogd d21
        (some (.bool true))
        (ob (dBin .eql x0 (.int .u8 39)) fun d22 =>
        some d22)
        none)
       none)
      (ob (dBin .eql x0 (.int .u8 95)) fun d23 =>
      ogd d23
       (some (.bool true))
       (ob (dBin .eql x0 (.int .u8 39)) fun d24 =>
       some d24)
       none)
      none)
     none)
    (ob (dBin .geq x0 (.int .u8 48)) fun d25 =>
    ogd d25
     (ob (dBin .leq x0 (.int .u8 57)) fun d26 =>
     ogd d26
      (some (.bool true))
      (ob (dBin .eql x0 (.int .u8 95)) fun d27 =>
      ogd d27
       (some (.bool true))
       (ob (dBin .eql x0 (.int .u8 39)) fun d28 =>
       some d28)
       none)
      none)
     (ob (dBin .eql x0 (.int .u8 95)) fun d29 =>
     ogd d29
      (some (.bool true))
      (ob (dBin .eql x0 (.int .u8 39)) fun d30 =>
      some d30)
      none)
     none)
    none)
   none) := evP_of [] (by kernel_rfl)
theorem fix_word_inner (x0 : DV) : (run cfg).p F_word_inner [x0] = P_word_inner (run cfg) x0 :=
  (fix_pure (C := cfg) (f := F_word_inner) (fn := Tryz.f94) (c := code_word_inner) (by kernel_rfl) Tryz.func94 (by kernel_rfl)).trans (by kernel_rfl)
theorem call_word_inner (x0 : DV) {d : DV} (h : P_word_inner (run cfg) x0 = some d) : (run cfg).p F_word_inner [x0] = some d := (fix_word_inner x0).trans h

noncomputable def code_r01_lower : Code := Tryz.f106.body.getD .skip
noncomputable def P_r01_lower (R : Orc) (x0 : DV) : Option DV := evP cfg R fl_r01_lower (retP cfg.P Tryz.f106) [] code_r01_lower (initSt Tryz.f106 [(x0, .val)] [])
theorem eq_r01_lower (R : Orc) (x0 : DV) : P_r01_lower R x0 =
  (ob (dBin .geq x0 (.int .u8 97)) fun d1 =>
  ogd d1
   (ob (dBin .leq x0 (.int .u8 122)) fun d2 =>
   some d2)
   (some (.bool false))
   none) := evP_of [] (by kernel_rfl)
theorem fix_r01_lower (x0 : DV) : (run cfg).p F_r01_lower [x0] = P_r01_lower (run cfg) x0 :=
  (fix_pure (C := cfg) (f := F_r01_lower) (fn := Tryz.f106) (c := code_r01_lower) (by kernel_rfl) Tryz.func106 (by kernel_rfl)).trans (by kernel_rfl)
theorem call_r01_lower (x0 : DV) {d : DV} (h : P_r01_lower (run cfg) x0 = some d) : (run cfg).p F_r01_lower [x0] = some d := (fix_r01_lower x0).trans h

noncomputable def code_r01_part : Code := Tryz.f107.body.getD .skip
noncomputable def P_r01_part (R : Orc) (x0 : DV) : Option DV := evP cfg R fl_r01_part (retP cfg.P Tryz.f107) [] code_r01_part (initSt Tryz.f107 [(x0, .val)] [])
set_option maxRecDepth 100000 in
theorem eq_r01_part (R : Orc) (x0 : DV) : P_r01_part R x0 =
  (ob (R.p F_r01_lower [x0]) fun d1 =>
  ogd d1
   (some (.bool true))
   (ob (R.p F_r01_digit [x0]) fun d2 =>
   ogd d2
    (some (.bool true))
    (ob (dBin .geq x0 (.int .u8 65)) fun d3 =>
    ogd d3
     (ob (dBin .leq x0 (.int .u8 90)) fun d4 =>
     ogd d4
      (some (.bool true))
      (ob (dBin .eql x0 (.int .u8 95)) fun d5 =>
      ogd d5
       (some (.bool true))
       (ob (dBin .eql x0 (.int .u8 39)) fun d6 =>
       some d6)
       none)
      none)
     (ob (dBin .eql x0 (.int .u8 95)) fun d7 =>
     ogd d7
      (some (.bool true))
      (ob (dBin .eql x0 (.int .u8 39)) fun d8 =>
      some d8)
      none)
     none)
    none)
   none) := evP_of [] (by kernel_rfl)
theorem fix_r01_part (x0 : DV) : (run cfg).p F_r01_part [x0] = P_r01_part (run cfg) x0 :=
  (fix_pure (C := cfg) (f := F_r01_part) (fn := Tryz.f107) (c := code_r01_part) (by kernel_rfl) Tryz.func107 (by kernel_rfl)).trans (by kernel_rfl)
theorem call_r01_part (x0 : DV) {d : DV} (h : P_r01_part (run cfg) x0 = some d) : (run cfg).p F_r01_part [x0] = some d := (fix_r01_part x0).trans h

noncomputable def code_r01_Key : Code := Tryz.f108.body.getD .skip
noncomputable def P_r01_Key (R : Orc) (x0 : DV) : Option DV := evP cfg R fl_r01_Key (retP cfg.P Tryz.f108) [] code_r01_Key (initSt Tryz.f108 [(x0, .val)] [])
noncomputable def P_r01_Key_2h (R : Orc) (t0 : DV) (t3 : DV) : Option DV := headP cfg R fl_r01_Key (retP cfg.P Tryz.f108) [true, false, true, false] code_r01_Key ⟨spread .undef 40 0 [(0, t0), (3, t3)], spread .val 40 0 [], spread none 40 0 [], []⟩
noncomputable def P_r01_Key_8h (R : Orc) (t0 : DV) (t4 : DV) (t5 : DV) : Option DV := headP cfg R fl_r01_Key (retP cfg.P Tryz.f108) [true, true, true, false, true, false] code_r01_Key ⟨spread .undef 40 0 [(0, t0), (4, t4), (5, t5)], spread .val 40 0 [], spread none 40 0 [], []⟩
theorem eq_r01_Key (R : Orc) (x0 : DV) : P_r01_Key R x0 =
  (P_r01_Key_2h R x0 (.int .i64 0)) := evP_of [] (by kernel_rfl)
theorem eq_r01_Key_2h (R : Orc) (t0 : DV) (t3 : DV) : P_r01_Key_2h R t0 t3 =
  (ob (dLenS t0) fun d1 =>
  ob (dBin .lss t3 d1) fun d2 =>
  oif d2
   (ob (dStrIdx t0 t3) fun d3 =>
   ob (R.p F_r01_lower [d3]) fun d4 =>
   ob (dUn .not d4) fun d5 =>
   oif d5
    (some (.bool false))
    (ob (dBin .add t3 (.int .i64 1)) fun d6 =>
    P_r01_Key_2h R t0 d6))
   (ob (dBin .add (.str ⟨#[32]⟩) t0) fun d7 =>
   ob (dBin .add d7 (.str ⟨#[32]⟩)) fun d8 =>
   P_r01_Key_8h R t0 d8 (.int .i64 0))) := headP_of [] (by kernel_rfl)
theorem eq_r01_Key_8h (R : Orc) (t0 : DV) (t4 : DV) (t5 : DV) : P_r01_Key_8h R t0 t4 t5 =
  (ob (dLenS t4) fun d1 =>
  ob (dBin .add t5 d1) fun d2 =>
  ob (dBin .leq d2 (.int .i64 81)) fun d3 =>
  oif d3
   (ob (dLenS t0) fun d4 =>
   ob (dBin .gtr d4 (.int .i64 0)) fun d5 =>
   ogd d5
    (ob (dLenS t4) fun d6 =>
    ob (dBin .add t5 d6) fun d7 =>
    ob (dSliceS (.str ⟨#[32, 108, 101, 116, 32, 114, 101, 99, 32, 105, 110, 32, 102, 117, 110, 32, 105, 102, 32, 116, 104, 101, 110, 32, 101, 108, 115, 101, 32, 109, 97, 116, 99, 104, 32, 119, 105, 116, 104, 32, 101, 110, 100, 32, 116, 114, 117, 101, 32, 102, 97, 108, 115, 101, 32, 105, 110, 116, 32, 98, 111, 111, 108, 32, 115, 116, 114, 105, 110, 103, 32, 117, 110, 105, 116, 32, 108, 105, 115, 116, 32]⟩) (some t5) (some d7)) fun d8 =>
    ob (dBin .eql d8 t4) fun d9 =>
    oif d9
     (some (.bool true))
     (ob (dBin .add t5 (.int .i64 1)) fun d10 =>
     P_r01_Key_8h R t0 t4 d10))
    (ob (dBin .add t5 (.int .i64 1)) fun d11 =>
    P_r01_Key_8h R t0 t4 d11)
    none)
   (some (.bool false))) := headP_of [] (by kernel_rfl)
theorem fix_r01_Key (x0 : DV) : (run cfg).p F_r01_Key [x0] = P_r01_Key (run cfg) x0 :=
  (fix_pure (C := cfg) (f := F_r01_Key) (fn := Tryz.f108) (c := code_r01_Key) (by kernel_rfl) Tryz.func108 (by kernel_rfl)).trans (by kernel_rfl)
theorem call_r01_Key (x0 : DV) {d : DV} (h : P_r01_Key (run cfg) x0 = some d) : (run cfg).p F_r01_Key [x0] = some d := (fix_r01_Key x0).trans h

noncomputable def code_r05_names : Code := Tryz.f109.body.getD .skip
noncomputable def P_r05_names (R : Orc) (x0 : DV) (x1 : DV) (sg : List SObj) : Option (List DV × List SObj) := evP cfg R fl_r05_names (retR cfg.P Tryz.f109 sig_r05_names) [] code_r05_names (initSt Tryz.f109 [(x0, .val), (x1, .own)] sg)
noncomputable def P_r05_names_4h (R : Orc) (t1 : DV) (t5 : DV) (b2 : DV) (sg : List SObj) : Option (List DV × List SObj) := headP cfg R fl_r05_names (retR cfg.P Tryz.f109 sig_r05_names) [true, true, false, true, false] code_r05_names ⟨spread .undef 29 0 [(1, t1), (5, t5)], spread .val 29 0 [(1, .own), (2, (.loc 2 0))], spread none 29 0 [(2, some [((proj 0 b2), .val), ((proj 1 b2), .val), ((proj 2 b2), .val), ((proj 3 b2), .val), ((proj 4 b2), .val), ((proj 5 b2), .val), ((proj 6 b2), .val)])], sg⟩
theorem eq_r05_names (R : Orc) (x0 : DV) (x1 : DV) (sg : List SObj) : P_r05_names R x0 x1 sg =
  (og (isAggN 7 x0) <|
  ob (dBin .eql (proj 0 x0) (.int .i64 2)) fun d1 =>
  oif d1
   (og (isCell (proj 3 x0)) <|
   ob (dApp 1 x1 (.list 1 [(proj 3 x0)])) fun d2 =>
   P_r05_names_4h R d2 (.int .i64 0) x0 sg)
   (P_r05_names_4h R x1 (.int .i64 0) x0 sg)) := evP_of [] (by kernel_rfl)
theorem eq_r05_names_4h (R : Orc) (t1 : DV) (t5 : DV) (b2 : DV) (sg : List SObj) : P_r05_names_4h R t1 t5 b2 sg =
  (ob (dLen (proj 6 b2)) fun d1 =>
  ob (dBin .lss t5 d1) fun d2 =>
  oif d2
   (ob (dIdx 7 (proj 6 b2) t5) fun d3 =>
   ob (R.r F_r05_names [((.agg [(proj 0 d3), (proj 1 d3), (proj 2 d3), (proj 3 d3), (proj 4 d3), (proj 5 d3), (proj 6 d3)]), .val), (t1, .own)] sg) fun q4 =>
   ob (dBin .add t5 (.int .i64 1)) fun d5 =>
   P_r05_names_4h R (q4.1.getD 0 .undef) d5 b2 q4.2)
   (some ([t1], sg))) := headP_of [] (by kernel_rfl)
theorem fix_r05_names (x0 : DV) (x1 : DV) (sg : List SObj) : (run cfg).r F_r05_names [(x0, .val), (x1, .own)] sg = P_r05_names (run cfg) x0 x1 sg :=
  (fix_raw (C := cfg) (f := F_r05_names) (s := sig_r05_names) (fn := Tryz.f109) (c := code_r05_names) (by kernel_rfl) Tryz.func109 (by kernel_rfl)).trans (by kernel_rfl)
theorem call_r05_names (x0 : DV) (x1 : DV) (sg : List SObj) {q : List DV × List SObj} (h : P_r05_names (run cfg) x0 x1 sg = some q) : (run cfg).r F_r05_names [(x0, .val), (x1, .own)] sg = some q := (fix_r05_names x0 x1 sg).trans h

noncomputable def code_typ_arity : Code := Tryz.f110.body.getD .skip
noncomputable def P_typ_arity (R : Orc) (x0 : DV) : Option DV := evP cfg R fl_typ_arity (retP cfg.P Tryz.f110) [] code_typ_arity (initSt Tryz.f110 [(x0, .val)] [])
theorem eq_typ_arity (R : Orc) (x0 : DV) : P_typ_arity R x0 =
  (ob (dBin .eql x0 (.int .i64 1)) fun d1 =>
  oif d1
   (some (.int .i64 0))
   (ob (dBin .eql x0 (.int .i64 2)) fun d2 =>
   oif d2
    (some (.int .i64 0))
    (ob (dBin .eql x0 (.int .i64 3)) fun d3 =>
    oif d3
     (some (.int .i64 0))
     (ob (dBin .eql x0 (.int .i64 4)) fun d4 =>
     oif d4
      (some (.int .i64 0))
      (ob (dBin .eql x0 (.int .i64 5)) fun d5 =>
      oif d5
       (some (.int .i64 0))
       (ob (dBin .eql x0 (.int .i64 6)) fun d6 =>
       oif d6
        (some (.int .i64 0))
        (ob (dBin .eql x0 (.int .i64 8)) fun d7 =>
        oif d7
         (some (.int .i64 1))
         (ob (dBin .eql x0 (.int .i64 7)) fun d8 =>
         oif d8
          (some (.int .i64 2))
          (ob (dBin .eql x0 (.int .i64 9)) fun d9 =>
          oif d9
           (some (.int .i64 2))
           (some (.int .i64 (-1)))))))))))) := evP_of [] (by kernel_rfl)
theorem fix_typ_arity (x0 : DV) : (run cfg).p F_typ_arity [x0] = P_typ_arity (run cfg) x0 :=
  (fix_pure (C := cfg) (f := F_typ_arity) (fn := Tryz.f110) (c := code_typ_arity) (by kernel_rfl) Tryz.func110 (by kernel_rfl)).trans (by kernel_rfl)
theorem call_typ_arity (x0 : DV) {d : DV} (h : P_typ_arity (run cfg) x0 = some d) : (run cfg).p F_typ_arity [x0] = some d := (fix_typ_arity x0).trans h

noncomputable def code_r01_digit : Code := Tryz.f117.body.getD .skip
noncomputable def P_r01_digit (R : Orc) (x0 : DV) : Option DV := evP cfg R fl_r01_digit (retP cfg.P Tryz.f117) [] code_r01_digit (initSt Tryz.f117 [(x0, .val)] [])
theorem eq_r01_digit (R : Orc) (x0 : DV) : P_r01_digit R x0 =
  (ob (dBin .geq x0 (.int .u8 48)) fun d1 =>
  ogd d1
   (ob (dBin .leq x0 (.int .u8 57)) fun d2 =>
   some d2)
   (some (.bool false))
   none) := evP_of [] (by kernel_rfl)
theorem fix_r01_digit (x0 : DV) : (run cfg).p F_r01_digit [x0] = P_r01_digit (run cfg) x0 :=
  (fix_pure (C := cfg) (f := F_r01_digit) (fn := Tryz.f117) (c := code_r01_digit) (by kernel_rfl) Tryz.func117 (by kernel_rfl)).trans (by kernel_rfl)
theorem call_r01_digit (x0 : DV) {d : DV} (h : P_r01_digit (run cfg) x0 = some d) : (run cfg).p F_r01_digit [x0] = some d := (fix_r01_digit x0).trans h

end Go.Su

/-
  All equations.
-/
namespace Go.Su
end Go.Su
