/-
  Equations of the program's functions: by program.
-/
import Derived.Test.YtgccmhlmdnimjaaP5
namespace Go.Su
open Go.Proofs
set_option linter.unusedVariables false

/-! ### check_scope_kids -/
noncomputable def code_check_scope_kids : Code := Try.f109.body.getD .skip
noncomputable def P_check_scope_kids (R : Orc) (x0 : Nat) (x1 : DV) (x2 : DV) (sg : List SObj) : Option (List DV × List SObj) := evP cfg R fl_check_scope_kids (retR cfg.P Try.f109 sig_check_scope_kids) [] code_check_scope_kids (initSt Try.f109 [(.undef, (.map x0)), (x1, .val), (x2, .val)] sg)
noncomputable def P_check_scope_kids_3h (R : Orc) (t0i : Nat) (t2 : DV) (t8 : DV) (t14 : DV) (t15 : DV) (t16 : DV) (sg : List SObj) : Option (List DV × List SObj) := headP cfg R fl_check_scope_kids (retR cfg.P Try.f109 sig_check_scope_kids) [true, true, false, true, false] code_check_scope_kids ⟨spread .undef 36 0 [(2, t2), (8, t8), (14, t14), (15, t15), (16, t16)], spread .val 36 0 [(0, (.map t0i)), (8, .own)], spread none 36 0 [], sg⟩
theorem eq_check_scope_kids (R : Orc) (x0 : Nat) (x1 : DV) (x2 : DV) (sg : List SObj) : P_check_scope_kids R x0 x1 x2 sg =
  (og (isAggN 20 x1) <|
  ob (dLen (proj 19 x1)) fun d1 =>
  P_check_scope_kids_3h R x0 x2 (.list 3 []) (proj 19 x1) d1 (.int .i64 0) sg) := evP_of [] (by kernel_rfl)
theorem eq_check_scope_kids_3h (R : Orc) (t0i : Nat) (t2 : DV) (t8 : DV) (t14 : DV) (t15 : DV) (t16 : DV) (sg : List SObj) : P_check_scope_kids_3h R t0i t2 t8 t14 t15 t16 sg =
  (ob (dBin .lss t16 t15) fun d1 =>
  oif d1
   (ob (dIdx 20 t14 t16) fun d2 =>
   ob (R.r F_check_scope_term [(.undef, (.map t0i)), ((.agg [(proj 0 d2), (proj 1 d2), (proj 2 d2), (proj 3 d2), (proj 4 d2), (proj 5 d2), (proj 6 d2), (proj 7 d2), (proj 8 d2), (proj 9 d2), (proj 10 d2), (proj 11 d2), (proj 12 d2), (proj 13 d2), (proj 14 d2), (proj 15 d2), (proj 16 d2), (proj 17 d2), (proj 18 d2), (proj 19 d2)]), .val), (t2, .val)] sg) fun q3 =>
   ob (dExt 0 (.tup q3.1)) fun d4 =>
   ob (dExt 1 (.tup q3.1)) fun d5 =>
   og (isAggN 3 d4) <|
   ob (dBin .neq d5 (.int .i64 0)) fun d6 =>
   oif d6
    (some ([(.list 3 []), d5], q3.2))
    (ob (dApp 3 t8 (.list 3 [(.agg [(proj 0 d4), (proj 1 d4), (proj 2 d4)])])) fun d7 =>
    ob (dBin .add t16 (.int .i64 1)) fun d8 =>
    P_check_scope_kids_3h R t0i t2 d7 t14 t15 d8 q3.2))
   (some ([t8, (.int .i64 0)], sg))) := headP_of [] (by kernel_rfl)
theorem call_check_scope_kids (x0 : Nat) (x1 : DV) (x2 : DV) (sg : List SObj) {q : List DV × List SObj} (h : P_check_scope_kids (run cfg) x0 x1 x2 sg = some q) : (run cfg).r F_check_scope_kids [(.undef, (.map x0)), (x1, .val), (x2, .val)] sg = some q :=
  run_raw (s := sig_check_scope_kids) (fn := Try.f109) (c := code_check_scope_kids) (by kernel_rfl) Try.func109 (by kernel_rfl) ((show _ = P_check_scope_kids (run cfg) x0 x1 x2 sg by kernel_rfl).trans h)

/-! ### check_scope_of -/
noncomputable def code_check_scope_of : Code := Try.f110.body.getD .skip
noncomputable def P_check_scope_of (R : Orc) (x0 : Nat) (x1 : DV) (x2 : DV) (sg : List SObj) : Option (List DV × List SObj) := evP cfg R fl_check_scope_of (retR cfg.P Try.f110 sig_check_scope_of) [] code_check_scope_of (initSt Try.f110 [(.undef, (.map x0)), (x1, .val), (x2, .val)] sg)
noncomputable def P_check_scope_of_13 (R : Orc) (t0i : Nat) (t2 : DV) (t11 : DV) (b4 : DV) (b6_0 : DV) (b6_1 : DV) (b6_2 : DV) (sg : List SObj) : Option (List DV × List SObj) := evP cfg R fl_check_scope_of (retR cfg.P Try.f110 sig_check_scope_of) [true, false, true, false, true, true, true, true, true, true, true, true] code_check_scope_of ⟨spread .undef 134 0 [(2, t2), (11, t11)], spread .val 134 0 [(0, (.map t0i)), (4, (.loc 4 0)), (6, (.loc 6 0))], spread none 134 0 [(4, some [((proj 0 b4), .val), ((proj 1 b4), .val), ((proj 2 b4), .val), ((proj 3 b4), .val), ((proj 4 b4), .val), ((proj 5 b4), .val), ((proj 6 b4), .val), ((proj 7 b4), .val), ((proj 8 b4), .val), ((proj 9 b4), .val), ((proj 10 b4), .val), ((proj 11 b4), .val), ((proj 12 b4), .val), ((proj 13 b4), .val), ((proj 14 b4), .val), ((proj 15 b4), .val), ((proj 16 b4), .val), ((proj 17 b4), .val), ((proj 18 b4), .val), ((proj 19 b4), .val)]), (6, some [(b6_0, .val), (b6_1, .val), (b6_2, .val)])], sg⟩
noncomputable def P_check_scope_of_21 (R : Orc) (t2 : DV) (t8 : DV) (t9 : DV) (b6_0 : DV) (b6_1 : DV) (b6_2 : DV) (sg : List SObj) : Option (List DV × List SObj) := evP cfg R fl_check_scope_of (retR cfg.P Try.f110 sig_check_scope_of) [true, false, true, false, true, true, true, true, true, true, true, true, true, false, true, true] code_check_scope_of ⟨spread .undef 134 0 [(2, t2), (8, t8), (9, t9)], spread .val 134 0 [(6, (.loc 6 0))], spread none 134 0 [(6, some [(b6_0, .val), (b6_1, .val), (b6_2, .val)])], sg⟩
set_option maxRecDepth 100000 in
theorem eq_check_scope_of (R : Orc) (x0 : Nat) (x1 : DV) (x2 : DV) (sg : List SObj) : P_check_scope_of R x0 x1 x2 sg =
  (og (isAggN 20 x1) <|
  ob (dBin .eql (proj 0 x1) (.int .i64 6)) fun d1 =>
  oif d1
   (og (isCell x2) <|
   some ([(.agg [(.int .i64 7), (.int .i64 0), x2]), (.int .i64 0)], sg))
   (ob (dBin .eql (proj 0 x1) (.int .i64 8)) fun d2 =>
   oif d2
    (ob (dIdx 3 x2 (.int .i64 1)) fun d3 =>
    ob (dBin .eql (proj 0 d3) (.int .i64 8)) fun d4 =>
    ogd d4
     (ob (dIdx 3 x2 (.int .i64 1)) fun d5 =>
     ob (dIdx 3 (proj 2 d5) (.int .i64 0)) fun d6 =>
     ob (dIdx 3 x2 (.int .i64 0)) fun d7 =>
     ob (R.p F_typ_Same [(.agg [(proj 0 d6), (proj 1 d6), (proj 2 d6)]), (.agg [(proj 0 d7), (proj 1 d7), (proj 2 d7)])]) fun d8 =>
     oif d8
      (ob (dIdx 3 x2 (.int .i64 1)) fun d9 =>
      some ([(.agg [(proj 0 d9), (proj 1 d9), (proj 2 d9)]), (.int .i64 0)], sg))
      (some ([(.agg [(.int .i64 0), (.int .i64 0), (.list 3 [])]), (.int .i64 4)], sg)))
     (some ([(.agg [(.int .i64 0), (.int .i64 0), (.list 3 [])]), (.int .i64 4)], sg))
     none)
    (ob (dBin .eql (proj 0 x1) (.int .i64 10)) fun d10 =>
    oif d10
     (ob (dIdx 3 x2 (.int .i64 0)) fun d11 =>
     ob (dBin .eql (proj 0 d11) (.int .i64 9)) fun d12 =>
     ogd d12
      (ob (dIdx 3 x2 (.int .i64 0)) fun d13 =>
      ob (dIdx 3 (proj 2 d13) (.int .i64 0)) fun d14 =>
      ob (dIdx 3 x2 (.int .i64 1)) fun d15 =>
      ob (R.p F_typ_Same [(.agg [(proj 0 d14), (proj 1 d14), (proj 2 d14)]), (.agg [(proj 0 d15), (proj 1 d15), (proj 2 d15)])]) fun d16 =>
      oif d16
       (ob (dIdx 3 x2 (.int .i64 0)) fun d17 =>
       ob (dIdx 3 (proj 2 d17) (.int .i64 1)) fun d18 =>
       some ([(.agg [(proj 0 d18), (proj 1 d18), (proj 2 d18)]), (.int .i64 0)], sg))
       (some ([(.agg [(.int .i64 0), (.int .i64 0), (.list 3 [])]), (.int .i64 4)], sg)))
      (some ([(.agg [(.int .i64 0), (.int .i64 0), (.list 3 [])]), (.int .i64 4)], sg))
      none)
     (ob (dBin .eql (proj 0 x1) (.int .i64 13)) fun d19 =>
     oif d19
      (ob (dIdx 3 x2 (.int .i64 0)) fun d20 =>
      ob (dBin .eql (proj 0 d20) (.int .i64 2)) fun d21 =>
      ogd d21
       (ob (dIdx 3 x2 (.int .i64 1)) fun d22 =>
       ob (dIdx 3 x2 (.int .i64 2)) fun d23 =>
       ob (R.p F_typ_Same [(.agg [(proj 0 d22), (proj 1 d22), (proj 2 d22)]), (.agg [(proj 0 d23), (proj 1 d23), (proj 2 d23)])]) fun d24 =>
       oif d24
        (ob (dIdx 3 x2 (.int .i64 1)) fun d25 =>
        some ([(.agg [(proj 0 d25), (proj 1 d25), (proj 2 d25)]), (.int .i64 0)], sg))
        (some ([(.agg [(.int .i64 0), (.int .i64 0), (.list 3 [])]), (.int .i64 4)], sg)))
       (some ([(.agg [(.int .i64 0), (.int .i64 0), (.list 3 [])]), (.int .i64 4)], sg))
       none)
      (P_check_scope_of_13 R x0 x2 (proj 0 x1) x1 (.int .i64 0) (.int .i64 0) (.list 3 []) sg))))) := evP_of [13, 21] (by kernel_rfl)
set_option maxRecDepth 100000 in
theorem eq_check_scope_of_13 (R : Orc) (t0i : Nat) (t2 : DV) (t11 : DV) (b4 : DV) (b6_0 : DV) (b6_1 : DV) (b6_2 : DV) (sg : List SObj) : P_check_scope_of_13 R t0i t2 t11 b4 b6_0 b6_1 b6_2 sg =
  (ob (dBin .eql t11 (.int .i64 15)) fun d1 =>
  oif d1
   (ob (dBin .eql (proj 7 b4) (.int .i64 5)) fun d2 =>
   oif d2
    (P_check_scope_of_21 R t2 (.int .i64 1) (.int .i64 2) b6_0 b6_1 b6_2 sg)
    (ob (dBin .eql (proj 7 b4) (.int .i64 6)) fun d3 =>
    oif d3
     (P_check_scope_of_21 R t2 (.int .i64 1) (.int .i64 2) b6_0 b6_1 b6_2 sg)
     (ob (dBin .eql (proj 7 b4) (.int .i64 7)) fun d4 =>
     oif d4
      (P_check_scope_of_21 R t2 (.int .i64 3) (.int .i64 2) b6_0 b6_1 b6_2 sg)
      (P_check_scope_of_21 R t2 (.int .i64 1) (.int .i64 1) b6_0 b6_1 b6_2 sg))))
   (ob (dBin .eql t11 (.int .i64 16)) fun d5 =>
   oif d5
    (ob (R.r F_check_scope_has [(.undef, (.map t0i)), ((.list 3 [(.agg [(proj 11 b4), (proj 12 b4), (proj 13 b4)]), (.agg [(proj 14 b4), (proj 15 b4), (proj 16 b4)])]), .val)] sg) fun q6 =>
    ob (dUn .not (q6.1.getD 0 .undef)) fun d7 =>
    oif d7
     (some ([(.agg [(.int .i64 0), (.int .i64 0), (.list 3 [])]), (.int .i64 6)], q6.2))
     (ob (dIdx 3 t2 (.int .i64 0)) fun d8 =>
     ob (R.p F_typ_Same [(.agg [(proj 0 d8), (proj 1 d8), (proj 2 d8)]), (.agg [(proj 11 b4), (proj 12 b4), (proj 13 b4)])]) fun d9 =>
     ogd d9
      (ob (R.p F_agree_Agree [(.agg [(proj 11 b4), (proj 12 b4), (proj 13 b4)]), (.agg [(proj 14 b4), (proj 15 b4), (proj 16 b4)])]) fun d10 =>
      oif d10
       (some ([(.agg [(proj 14 b4), (proj 15 b4), (proj 16 b4)]), (.int .i64 0)], q6.2))
       (some ([(.agg [(.int .i64 0), (.int .i64 0), (.list 3 [])]), (.int .i64 4)], q6.2)))
      (some ([(.agg [(.int .i64 0), (.int .i64 0), (.list 3 [])]), (.int .i64 4)], q6.2))
      none))
    (some ([(.agg [(.int .i64 0), (.int .i64 0), (.list 3 [])]), (.int .i64 4)], sg)))) := evP_of [13, 21] (by kernel_rfl)
theorem eq_check_scope_of_21 (R : Orc) (t2 : DV) (t8 : DV) (t9 : DV) (b6_0 : DV) (b6_1 : DV) (b6_2 : DV) (sg : List SObj) : P_check_scope_of_21 R t2 t8 t9 b6_0 b6_1 b6_2 sg =
  (ob (dIdx 3 t2 (.int .i64 0)) fun d1 =>
  ob (dBin .eql (proj 0 d1) t8) fun d2 =>
  ogd d2
   (ob (dIdx 3 t2 (.int .i64 1)) fun d3 =>
   ob (dBin .eql (proj 0 d3) t8) fun d4 =>
   oif d4
    (og (isCell t9) <|
    some ([(.agg [t9, (.int .i64 0), (.list 3 [])]), (.int .i64 0)], sg))
    (some ([(.agg [(.int .i64 0), (.int .i64 0), (.list 3 [])]), (.int .i64 4)], sg)))
   (some ([(.agg [(.int .i64 0), (.int .i64 0), (.list 3 [])]), (.int .i64 4)], sg))
   none) := evP_of [13, 21] (by kernel_rfl)
theorem call_check_scope_of (x0 : Nat) (x1 : DV) (x2 : DV) (sg : List SObj) {q : List DV × List SObj} (h : P_check_scope_of (run cfg) x0 x1 x2 sg = some q) : (run cfg).r F_check_scope_of [(.undef, (.map x0)), (x1, .val), (x2, .val)] sg = some q :=
  run_raw (s := sig_check_scope_of) (fn := Try.f110) (c := code_check_scope_of) (by kernel_rfl) Try.func110 (by kernel_rfl) ((show _ = P_check_scope_of (run cfg) x0 x1 x2 sg by kernel_rfl).trans h)

/-! ### typ_Check -/
noncomputable def code_typ_Check : Code := Try.f112.body.getD .skip
noncomputable def P_typ_Check (R : Orc) (x0 : DV) : Option DV := evP cfg R fl_typ_Check (retP cfg.P Try.f112) [] code_typ_Check (initSt Try.f112 [(x0, .val)] [])
theorem eq_typ_Check (R : Orc) (x0 : DV) : P_typ_Check R x0 =
  (og (isAggN 3 x0) <|
  ob (R.p F_typ_right [(.agg [(proj 0 x0), (proj 1 x0), (proj 2 x0)])]) fun d1 =>
  ob (dUn .not d1) fun d2 =>
  oif d2
   (some (.int .i64 1))
   (some (.int .i64 0))) := evP_of [] (by kernel_rfl)
theorem call_typ_Check (x0 : DV) {d : DV} (h : P_typ_Check (run cfg) x0 = some d) : (run cfg).p F_typ_Check [x0] = some d :=
  run_pure (fn := Try.f112) (c := code_typ_Check) (by kernel_rfl) Try.func112 (by kernel_rfl) ((show _ = P_typ_Check (run cfg) x0 by kernel_rfl).trans h)

/-! ### scheme_put -/
noncomputable def code_scheme_put : Code := Try.f113.body.getD .skip
noncomputable def P_scheme_put (R : Orc) (x0 : DV) (x1 : DV) (x2 : Nat) (sg : List SObj) : Option (List DV × List SObj) := evP cfg R fl_scheme_put (retR cfg.P Try.f113 sig_scheme_put) [] code_scheme_put (initSt Try.f113 [(x0, .val), (x1, .val), (.undef, (.map x2))] sg)
noncomputable def P_scheme_put_10h (R : Orc) (t1 : DV) (t2i : Nat) (t38 : DV) (t39 : DV) (t40 : DV) (b6_0 : DV) (b6_1 : DV) (b6_2 : DV) (b9_0 : DV) (b9_1 : DV) (b9_2 : DV) (sg : List SObj) : Option (List DV × List SObj) := headP cfg R fl_scheme_put (retR cfg.P Try.f113 sig_scheme_put) [true, true, true, true, false, true, false] code_scheme_put ⟨spread .undef 55 0 [(1, t1), (38, t38), (39, t39), (40, t40)], spread .val 55 0 [(2, (.map t2i)), (6, (.loc 6 0)), (9, (.loc 9 0))], spread none 55 0 [(6, some [(b6_0, .val), (b6_1, .val), (b6_2, .val)]), (9, some [(b9_0, .val), (b9_1, .val), (b9_2, .own)])], sg⟩
theorem eq_scheme_put (R : Orc) (x0 : DV) (x1 : DV) (x2 : Nat) (sg : List SObj) : P_scheme_put R x0 x1 x2 sg =
  (og (isAggN 3 x0) <|
  ob (dBin .eql (proj 0 x0) (.int .i64 6)) fun d1 =>
  oif d1
   (og (isKey false (proj 1 x0) && true) <|
   ob (sgMap sg x2) fun m2 =>
   og (m2.1 == false) <|
   oif (.bool (mGet m2.2 (proj 1 x0)).isSome)
    (ob (dIdx 4 x1 ((mGet m2.2 (proj 1 x0)).getD (.int .i64 0))) fun d3 =>
    some ([(.agg [(proj 1 d3), (proj 2 d3), (proj 3 d3)])], sg))
    (some ([(.agg [(proj 0 x0), (proj 1 x0), (proj 2 x0)])], sg)))
   (ob (dLen (proj 2 x0)) fun d4 =>
   ob (dBin .eql d4 (.int .i64 0)) fun d5 =>
   oif d5
    (some ([(.agg [(proj 0 x0), (proj 1 x0), (proj 2 x0)])], sg))
    (og (isCell (proj 0 x0)) <|
    ob (dLen (proj 2 x0)) fun d6 =>
    P_scheme_put_10h R x1 x2 (proj 2 x0) d6 (.int .i64 0) (.int .i64 0) (.int .i64 0) (.list 3 []) (proj 0 x0) (.int .i64 0) (.list 3 []) sg))) := evP_of [] (by kernel_rfl)
theorem eq_scheme_put_10h (R : Orc) (t1 : DV) (t2i : Nat) (t38 : DV) (t39 : DV) (t40 : DV) (b6_0 : DV) (b6_1 : DV) (b6_2 : DV) (b9_0 : DV) (b9_1 : DV) (b9_2 : DV) (sg : List SObj) : P_scheme_put_10h R t1 t2i t38 t39 t40 b6_0 b6_1 b6_2 b9_0 b9_1 b9_2 sg =
  (ob (dBin .lss t40 t39) fun d1 =>
  oif d1
   (ob (dIdx 3 t38 t40) fun d2 =>
   ob (R.r F_scheme_put [((.agg [(proj 0 d2), (proj 1 d2), (proj 2 d2)]), .val), (t1, .val), (.undef, (.map t2i))] sg) fun q3 =>
   og (isAggN 3 (q3.1.getD 0 .undef)) <|
   ob (dApp 3 b9_2 (.list 3 [(q3.1.getD 0 .undef)])) fun d4 =>
   ob (dBin .add t40 (.int .i64 1)) fun d5 =>
   P_scheme_put_10h R t1 t2i t38 t39 d5 b6_0 b6_1 b6_2 b9_0 b9_1 d4 q3.2)
   (some ([(.agg [b9_0, b9_1, b9_2])], sg))) := headP_of [] (by kernel_rfl)
theorem call_scheme_put (x0 : DV) (x1 : DV) (x2 : Nat) (sg : List SObj) {q : List DV × List SObj} (h : P_scheme_put (run cfg) x0 x1 x2 sg = some q) : (run cfg).r F_scheme_put [(x0, .val), (x1, .val), (.undef, (.map x2))] sg = some q :=
  run_raw (s := sig_scheme_put) (fn := Try.f113) (c := code_scheme_put) (by kernel_rfl) Try.func113 (by kernel_rfl) ((show _ = P_scheme_put (run cfg) x0 x1 x2 sg by kernel_rfl).trans h)

/-! ### r05_pat -/
noncomputable def code_r05_pat : Code := Try.f118.body.getD .skip
noncomputable def P_r05_pat (R : Orc) (x0 : DV) : Option DV := evP cfg R fl_r05_pat (retP cfg.P Try.f118) [] code_r05_pat (initSt Try.f118 [(x0, .val)] [])
noncomputable def P_r05_pat_25 (R : Orc) (t3 : DV) (b1 : DV) (b4_0 : DV) (b4_1 : DV) (b4_2 : DV) (b4_3 : DV) (b4_4 : DV) (b4_5 : DV) (b4_6 : DV) : Option DV := evP cfg R fl_r05_pat (retP cfg.P Try.f118) [true, true, true, true] code_r05_pat ⟨spread .undef 92 0 [(3, t3)], spread .val 92 0 [(1, (.loc 1 0)), (4, (.loc 4 0))], spread none 92 0 [(1, some [((proj 0 b1), .val), ((proj 1 b1), .val), ((proj 2 b1), .val), ((proj 3 b1), .val), ((proj 4 b1), .val), ((proj 5 b1), .val), ((proj 6 b1), .val)]), (4, some [(b4_0, .val), (b4_1, .val), (b4_2, .val), (b4_3, .val), (b4_4, .val), (b4_5, .val), (b4_6, .val)])], []⟩
noncomputable def P_r05_pat_28h (R : Orc) (t3 : DV) (t5 : DV) (b1 : DV) : Option DV := headP cfg R fl_r05_pat (retP cfg.P Try.f118) [true, true, true, true, true, false, true, false] code_r05_pat ⟨spread .undef 92 0 [(3, t3), (5, t5)], spread .val 92 0 [(1, (.loc 1 0))], spread none 92 0 [(1, some [((proj 0 b1), .val), ((proj 1 b1), .val), ((proj 2 b1), .val), ((proj 3 b1), .val), ((proj 4 b1), .val), ((proj 5 b1), .val), ((proj 6 b1), .val)])], []⟩
set_option maxRecDepth 100000 in
theorem eq_r05_pat (R : Orc) (x0 : DV) : P_r05_pat R x0 =
  (og (isAggN 7 x0) <|
  og (isCell (proj 0 x0)) <|
  ob (dBin .eql (proj 0 x0) (.int .i64 1)) fun d1 =>
  oif d1
   (P_r05_pat_25 R (.int .i64 0) x0 (proj 0 x0) (.int .i64 0) (.int .i64 0) (.str ⟨#[]⟩) (.int .i64 0) (.str ⟨#[]⟩) (.list 7 []))
   (ob (dBin .eql (proj 0 x0) (.int .i64 6)) fun d2 =>
   oif d2
    (P_r05_pat_25 R (.int .i64 0) x0 (proj 0 x0) (.int .i64 0) (.int .i64 0) (.str ⟨#[]⟩) (.int .i64 0) (.str ⟨#[]⟩) (.list 7 []))
    (ob (dBin .eql (proj 0 x0) (.int .i64 8)) fun d3 =>
    oif d3
     (P_r05_pat_25 R (.int .i64 0) x0 (proj 0 x0) (.int .i64 0) (.int .i64 0) (.str ⟨#[]⟩) (.int .i64 0) (.str ⟨#[]⟩) (.list 7 []))
     (ob (dBin .eql (proj 0 x0) (.int .i64 2)) fun d4 =>
     oif d4
      (og (isCell (proj 3 x0)) <|
      ob (R.p F_r01_Name [(proj 3 x0)]) fun d5 =>
      ob (dUn .not d5) fun d6 =>
      oif d6
       (some (.bool false))
       (P_r05_pat_25 R (.int .i64 0) x0 (proj 0 x0) (.int .i64 0) (.int .i64 0) (proj 3 x0) (.int .i64 0) (.str ⟨#[]⟩) (.list 7 [])))
      (ob (dBin .eql (proj 0 x0) (.int .i64 3)) fun d7 =>
      oif d7
       (og (isCell (proj 4 x0)) <|
       P_r05_pat_25 R (.int .i64 0) x0 (proj 0 x0) (.int .i64 0) (.int .i64 0) (.str ⟨#[]⟩) (proj 4 x0) (.str ⟨#[]⟩) (.list 7 []))
       (ob (dBin .eql (proj 0 x0) (.int .i64 4)) fun d8 =>
       oif d8
        (og (isCell (proj 4 x0)) <|
        ob (dBin .lss (proj 4 x0) (.int .i64 0)) fun d9 =>
        ogd d9
         (some (.bool false))
         (ob (dBin .gtr (proj 4 x0) (.int .i64 1)) fun d10 =>
         oif d10
          (some (.bool false))
          (P_r05_pat_25 R (.int .i64 0) x0 (proj 0 x0) (.int .i64 0) (.int .i64 0) (.str ⟨#[]⟩) (proj 4 x0) (.str ⟨#[]⟩) (.list 7 [])))
         none)
        (ob (dBin .eql (proj 0 x0) (.int .i64 5)) fun d11 =>
        oif d11
         (og (isCell (proj 5 x0)) <|
         ob (dLenS (proj 5 x0)) fun d12 =>
         ob (dBin .gtr d12 (.int .i64 200)) fun d13 =>
         oif d13
          (some (.bool false))
          (P_r05_pat_25 R (.int .i64 0) x0 (proj 0 x0) (.int .i64 0) (.int .i64 0) (.str ⟨#[]⟩) (.int .i64 0) (proj 5 x0) (.list 7 [])))
         (ob (dBin .eql (proj 0 x0) (.int .i64 7)) fun d14 =>
         oif d14
          (P_r05_pat_25 R (.int .i64 2) x0 (proj 0 x0) (.int .i64 0) (.int .i64 0) (.str ⟨#[]⟩) (.int .i64 0) (.str ⟨#[]⟩) (.list 7 []))
          (ob (dBin .eql (proj 0 x0) (.int .i64 9)) fun d15 =>
          oif d15
           (P_r05_pat_25 R (.int .i64 2) x0 (proj 0 x0) (.int .i64 0) (.int .i64 0) (.str ⟨#[]⟩) (.int .i64 0) (.str ⟨#[]⟩) (.list 7 []))
           (some (.bool false))))))))))) := evP_of [25] (by kernel_rfl)
set_option maxRecDepth 100000 in
theorem eq_r05_pat_25 (R : Orc) (t3 : DV) (b1 : DV) (b4_0 : DV) (b4_1 : DV) (b4_2 : DV) (b4_3 : DV) (b4_4 : DV) (b4_5 : DV) (b4_6 : DV) : P_r05_pat_25 R t3 b1 b4_0 b4_1 b4_2 b4_3 b4_4 b4_5 b4_6 =
  (ob (dLen (proj 6 b1)) fun d1 =>
  ob (dBin .neq d1 t3) fun d2 =>
  ogd d2
   (some (.bool false))
   (ob (dBin .neq (proj 3 b1) b4_3) fun d3 =>
   ogd d3
    (some (.bool false))
    (ob (dBin .neq (proj 4 b1) b4_4) fun d4 =>
    ogd d4
     (some (.bool false))
     (ob (dBin .neq (proj 5 b1) b4_5) fun d5 =>
     oif d5
      (some (.bool false))
      (P_r05_pat_28h R t3 (.int .i64 0) b1))
     none)
    none)
   none) := evP_of [25] (by kernel_rfl)
theorem eq_r05_pat_28h (R : Orc) (t3 : DV) (t5 : DV) (b1 : DV) : P_r05_pat_28h R t3 t5 b1 =
  (ob (dBin .lss t5 t3) fun d1 =>
  oif d1
   (ob (dIdx 7 (proj 6 b1) t5) fun d2 =>
   ob (R.p F_r05_pat [(.agg [(proj 0 d2), (proj 1 d2), (proj 2 d2), (proj 3 d2), (proj 4 d2), (proj 5 d2), (proj 6 d2)])]) fun d3 =>
   ob (dUn .not d3) fun d4 =>
   oif d4
    (some (.bool false))
    (ob (dBin .add t5 (.int .i64 1)) fun d5 =>
    P_r05_pat_28h R t3 d5 b1))
   (some (.bool true))) := headP_of [25] (by kernel_rfl)
theorem call_r05_pat (x0 : DV) {d : DV} (h : P_r05_pat (run cfg) x0 = some d) : (run cfg).p F_r05_pat [x0] = some d :=
  run_pure (fn := Try.f118) (c := code_r05_pat) (by kernel_rfl) Try.func118 (by kernel_rfl) ((show _ = P_r05_pat (run cfg) x0 by kernel_rfl).trans h)

/-! ### word_Name -/
noncomputable def code_word_Name : Code := Try.f121.body.getD .skip
noncomputable def P_word_Name (R : Orc) (x0 : DV) : Option DV := evP cfg R fl_word_Name (retP cfg.P Try.f121) [] code_word_Name (initSt Try.f121 [(x0, .val)] [])
noncomputable def P_word_Name_4h (R : Orc) (t0 : DV) (t3 : DV) : Option DV := headP cfg R fl_word_Name (retP cfg.P Try.f121) [true, true, false, true, false] code_word_Name ⟨spread .undef 37 0 [(0, t0), (3, t3)], spread .val 37 0 [], spread none 37 0 [], []⟩
set_option maxRecDepth 100000 in
theorem eq_word_Name (R : Orc) (x0 : DV) : P_word_Name R x0 =
  (ob (dLenS x0) fun d1 =>
  ob (dBin .lss d1 (.int .i64 1)) fun d2 =>
  ogd d2
   (some (.bool false))
   (ob (dLenS x0) fun d3 =>
   ob (dBin .gtr d3 (.int .i64 32)) fun d4 =>
   ogd d4
    (some (.bool false))
    (ob (dStrIdx x0 (.int .i64 0)) fun d5 =>
    ob (dBin .lss d5 (.int .u8 97)) fun d6 =>
    ogd d6
     (some (.bool false))
     (ob (dStrIdx x0 (.int .i64 0)) fun d7 =>
     ob (dBin .gtr d7 (.int .u8 122)) fun d8 =>
     ogd d8
      (some (.bool false))
      (ob (R.p F_word_Key [x0]) fun d9 =>
      oif d9
       (some (.bool false))
       (P_word_Name_4h R x0 (.int .i64 1)))
      none)
     none)
    none)
   none) := evP_of [] (by kernel_rfl)
theorem eq_word_Name_4h (R : Orc) (t0 : DV) (t3 : DV) : P_word_Name_4h R t0 t3 =
  (ob (dLenS t0) fun d1 =>
  ob (dBin .lss t3 d1) fun d2 =>
  oif d2
   (ob (dStrIdx t0 t3) fun d3 =>
   ob (R.p F_word_inner [d3]) fun d4 =>
   ob (dUn .not d4) fun d5 =>
   oif d5
    (some (.bool false))
    (ob (dBin .add t3 (.int .i64 1)) fun d6 =>
    P_word_Name_4h R t0 d6))
   (some (.bool true))) := headP_of [] (by kernel_rfl)
theorem call_word_Name (x0 : DV) {d : DV} (h : P_word_Name (run cfg) x0 = some d) : (run cfg).p F_word_Name [x0] = some d :=
  run_pure (fn := Try.f121) (c := code_word_Name) (by kernel_rfl) Try.func121 (by kernel_rfl) ((show _ = P_word_Name (run cfg) x0 by kernel_rfl).trans h)

/-! ### typ_Same -/
noncomputable def code_typ_Same : Code := Try.f124.body.getD .skip
noncomputable def P_typ_Same (R : Orc) (x0 : DV) (x1 : DV) : Option DV := evP cfg R fl_typ_Same (retP cfg.P Try.f124) [] code_typ_Same (initSt Try.f124 [(x0, .val), (x1, .val)] [])
noncomputable def P_typ_Same_4h (R : Orc) (t29 : DV) (t30 : DV) (t31 : DV) (b3 : DV) : Option DV := headP cfg R fl_typ_Same (retP cfg.P Try.f124) [true, true, false, true, false] code_typ_Same ⟨spread .undef 45 0 [(29, t29), (30, t30), (31, t31)], spread .val 45 0 [(3, (.loc 3 0))], spread none 45 0 [(3, some [((proj 0 b3), .val), ((proj 1 b3), .val), ((proj 2 b3), .val)])], []⟩
set_option maxRecDepth 100000 in
theorem eq_typ_Same (R : Orc) (x0 : DV) (x1 : DV) : P_typ_Same R x0 x1 =
  (og (isAggN 3 x0) <|
  og (isAggN 3 x1) <|
  ob (dBin .neq (proj 0 x0) (proj 0 x1)) fun d1 =>
  ogd d1
   (some (.bool false))
   (ob (dBin .neq (proj 1 x0) (proj 1 x1)) fun d2 =>
   ogd d2
    (some (.bool false))
    (ob (dLen (proj 2 x0)) fun d3 =>
    ob (dLen (proj 2 x1)) fun d4 =>
    ob (dBin .neq d3 d4) fun d5 =>
    oif d5
     (some (.bool false))
     (ob (dLen (proj 2 x0)) fun d6 =>
     P_typ_Same_4h R (proj 2 x0) d6 (.int .i64 0) x1))
    none)
   none) := evP_of [] (by kernel_rfl)
theorem eq_typ_Same_4h (R : Orc) (t29 : DV) (t30 : DV) (t31 : DV) (b3 : DV) : P_typ_Same_4h R t29 t30 t31 b3 =
  (ob (dBin .lss t31 t30) fun d1 =>
  oif d1
   (ob (dIdx 3 t29 t31) fun d2 =>
   ob (dIdx 3 (proj 2 b3) t31) fun d3 =>
   ob (R.p F_typ_Same [(.agg [(proj 0 d2), (proj 1 d2), (proj 2 d2)]), (.agg [(proj 0 d3), (proj 1 d3), (proj 2 d3)])]) fun d4 =>
   ob (dUn .not d4) fun d5 =>
   oif d5
    (some (.bool false))
    (ob (dBin .add t31 (.int .i64 1)) fun d6 =>
    P_typ_Same_4h R t29 t30 d6 b3))
   (some (.bool true))) := headP_of [] (by kernel_rfl)
theorem call_typ_Same (x0 : DV) (x1 : DV) {d : DV} (h : P_typ_Same (run cfg) x0 x1 = some d) : (run cfg).p F_typ_Same [x0, x1] = some d :=
  run_pure (fn := Try.f124) (c := code_typ_Same) (by kernel_rfl) Try.func124 (by kernel_rfl) ((show _ = P_typ_Same (run cfg) x0 x1 by kernel_rfl).trans h)

/-! ### r03_Same -/
noncomputable def code_r03_Same : Code := Try.f130.body.getD .skip
noncomputable def P_r03_Same (R : Orc) (x0 : DV) (x1 : DV) : Option DV := evP cfg R fl_r03_Same (retP cfg.P Try.f130) [] code_r03_Same (initSt Try.f130 [(x0, .val), (x1, .val)] [])
noncomputable def P_r03_Same_4h (R : Orc) (t5 : DV) (b2 : DV) (b3 : DV) : Option DV := headP cfg R fl_r03_Same (retP cfg.P Try.f130) [true, true, false, true, false] code_r03_Same ⟨spread .undef 46 0 [(5, t5)], spread .val 46 0 [(2, (.loc 2 0)), (3, (.loc 3 0))], spread none 46 0 [(2, some [((proj 0 b2), .val), ((proj 1 b2), .val), ((proj 2 b2), .val)]), (3, some [((proj 0 b3), .val), ((proj 1 b3), .val), ((proj 2 b3), .val)])], []⟩
set_option maxRecDepth 100000 in
theorem eq_r03_Same (R : Orc) (x0 : DV) (x1 : DV) : P_r03_Same R x0 x1 =
  (og (isAggN 3 x0) <|
  og (isAggN 3 x1) <|
  ob (dBin .neq (proj 0 x0) (proj 0 x1)) fun d1 =>
  ogd d1
   (some (.bool false))
   (ob (dBin .neq (proj 1 x0) (proj 1 x1)) fun d2 =>
   ogd d2
    (some (.bool false))
    (ob (dLen (proj 2 x0)) fun d3 =>
    ob (dLen (proj 2 x1)) fun d4 =>
    ob (dBin .neq d3 d4) fun d5 =>
    oif d5
     (some (.bool false))
     (P_r03_Same_4h R (.int .i64 0) x0 x1))
    none)
   none) := evP_of [] (by kernel_rfl)
theorem eq_r03_Same_4h (R : Orc) (t5 : DV) (b2 : DV) (b3 : DV) : P_r03_Same_4h R t5 b2 b3 =
  (ob (dLen (proj 2 b2)) fun d1 =>
  ob (dBin .lss t5 d1) fun d2 =>
  oif d2
   (ob (dIdx 3 (proj 2 b2) t5) fun d3 =>
   ob (dIdx 3 (proj 2 b3) t5) fun d4 =>
   ob (R.p F_r03_Same [(.agg [(proj 0 d3), (proj 1 d3), (proj 2 d3)]), (.agg [(proj 0 d4), (proj 1 d4), (proj 2 d4)])]) fun d5 =>
   ob (dUn .not d5) fun d6 =>
   oif d6
    (some (.bool false))
    (ob (dBin .add t5 (.int .i64 1)) fun d7 =>
    P_r03_Same_4h R d7 b2 b3))
   (some (.bool true))) := headP_of [] (by kernel_rfl)
theorem call_r03_Same (x0 : DV) (x1 : DV) {d : DV} (h : P_r03_Same (run cfg) x0 x1 = some d) : (run cfg).p F_r03_Same [x0, x1] = some d :=
  run_pure (fn := Try.f130) (c := code_r03_Same) (by kernel_rfl) Try.func130 (by kernel_rfl) ((show _ = P_r03_Same (run cfg) x0 x1 by kernel_rfl).trans h)

/-! ### r03_SameAll -/
noncomputable def code_r03_SameAll : Code := Try.f138.body.getD .skip
noncomputable def P_r03_SameAll (R : Orc) (x0 : DV) (x1 : DV) : Option DV := evP cfg R fl_r03_SameAll (retP cfg.P Try.f138) [] code_r03_SameAll (initSt Try.f138 [(x0, .val), (x1, .val)] [])
noncomputable def P_r03_SameAll_4h (R : Orc) (t0 : DV) (t1 : DV) (t5 : DV) : Option DV := headP cfg R fl_r03_SameAll (retP cfg.P Try.f138) [true, true, false, true, false] code_r03_SameAll ⟨spread .undef 27 0 [(0, t0), (1, t1), (5, t5)], spread .val 27 0 [], spread none 27 0 [], []⟩
theorem eq_r03_SameAll (R : Orc) (x0 : DV) (x1 : DV) : P_r03_SameAll R x0 x1 =
  (ob (dLen x0) fun d1 =>
  ob (dLen x1) fun d2 =>
  ob (dBin .neq d1 d2) fun d3 =>
  oif d3
   (some (.bool false))
   (P_r03_SameAll_4h R x0 x1 (.int .i64 0))) := evP_of [] (by kernel_rfl)
theorem eq_r03_SameAll_4h (R : Orc) (t0 : DV) (t1 : DV) (t5 : DV) : P_r03_SameAll_4h R t0 t1 t5 =
  (ob (dLen t0) fun d1 =>
  ob (dBin .lss t5 d1) fun d2 =>
  oif d2
   (ob (dIdx 3 t0 t5) fun d3 =>
   ob (dIdx 3 t1 t5) fun d4 =>
   ob (R.p F_r03_Same [(.agg [(proj 0 d3), (proj 1 d3), (proj 2 d3)]), (.agg [(proj 0 d4), (proj 1 d4), (proj 2 d4)])]) fun d5 =>
   ob (dUn .not d5) fun d6 =>
   oif d6
    (some (.bool false))
    (ob (dBin .add t5 (.int .i64 1)) fun d7 =>
    P_r03_SameAll_4h R t0 t1 d7))
   (some (.bool true))) := headP_of [] (by kernel_rfl)
theorem call_r03_SameAll (x0 : DV) (x1 : DV) {d : DV} (h : P_r03_SameAll (run cfg) x0 x1 = some d) : (run cfg).p F_r03_SameAll [x0, x1] = some d :=
  run_pure (fn := Try.f138) (c := code_r03_SameAll) (by kernel_rfl) Try.func138 (by kernel_rfl) ((show _ = P_r03_SameAll (run cfg) x0 x1 by kernel_rfl).trans h)

/-! ### r05_SameAt -/
noncomputable def code_r05_SameAt : Code := Try.f139.body.getD .skip
noncomputable def P_r05_SameAt (R : Orc) (x0 : DV) (x1 : DV) : Option DV := evP cfg R fl_r05_SameAt (retP cfg.P Try.f139) [] code_r05_SameAt (initSt Try.f139 [(x0, .val), (x1, .val)] [])
noncomputable def P_r05_SameAt_4h (R : Orc) (t5 : DV) (b2 : DV) (b3 : DV) : Option DV := headP cfg R fl_r05_SameAt (retP cfg.P Try.f139) [true, true, false, true, false] code_r05_SameAt ⟨spread .undef 56 0 [(5, t5)], spread .val 56 0 [(2, (.loc 2 0)), (3, (.loc 3 0))], spread none 56 0 [(2, some [((proj 0 b2), .val), ((proj 1 b2), .val), ((proj 2 b2), .val), ((proj 3 b2), .val), ((proj 4 b2), .val), ((proj 5 b2), .val), ((proj 6 b2), .val), ((proj 7 b2), .val), ((proj 8 b2), .val), ((proj 9 b2), .val), ((proj 10 b2), .val), ((proj 11 b2), .val), ((proj 12 b2), .val), ((proj 13 b2), .val), ((proj 14 b2), .val), ((proj 15 b2), .val)]), (3, some [((proj 0 b3), .val), ((proj 1 b3), .val), ((proj 2 b3), .val), ((proj 3 b3), .val), ((proj 4 b3), .val), ((proj 5 b3), .val), ((proj 6 b3), .val), ((proj 7 b3), .val), ((proj 8 b3), .val), ((proj 9 b3), .val), ((proj 10 b3), .val), ((proj 11 b3), .val), ((proj 12 b3), .val), ((proj 13 b3), .val), ((proj 14 b3), .val), ((proj 15 b3), .val)])], []⟩
noncomputable def P_r05_SameAt_9h (R : Orc) (t6 : DV) (b2 : DV) (b3 : DV) : Option DV := headP cfg R fl_r05_SameAt (retP cfg.P Try.f139) [true, true, true, false, true, false] code_r05_SameAt ⟨spread .undef 56 0 [(6, t6)], spread .val 56 0 [(2, (.loc 2 0)), (3, (.loc 3 0))], spread none 56 0 [(2, some [((proj 0 b2), .val), ((proj 1 b2), .val), ((proj 2 b2), .val), ((proj 3 b2), .val), ((proj 4 b2), .val), ((proj 5 b2), .val), ((proj 6 b2), .val), ((proj 7 b2), .val), ((proj 8 b2), .val), ((proj 9 b2), .val), ((proj 10 b2), .val), ((proj 11 b2), .val), ((proj 12 b2), .val), ((proj 13 b2), .val), ((proj 14 b2), .val), ((proj 15 b2), .val)]), (3, some [((proj 0 b3), .val), ((proj 1 b3), .val), ((proj 2 b3), .val), ((proj 3 b3), .val), ((proj 4 b3), .val), ((proj 5 b3), .val), ((proj 6 b3), .val), ((proj 7 b3), .val), ((proj 8 b3), .val), ((proj 9 b3), .val), ((proj 10 b3), .val), ((proj 11 b3), .val), ((proj 12 b3), .val), ((proj 13 b3), .val), ((proj 14 b3), .val), ((proj 15 b3), .val)])], []⟩
theorem eq_r05_SameAt (R : Orc) (x0 : DV) (x1 : DV) : P_r05_SameAt R x0 x1 =
  (og (isAggN 16 x0) <|
  og (isAggN 16 x1) <|
  ob (R.p F_r05_Same [(.agg [(proj 0 x0), (proj 1 x0), (proj 2 x0), (proj 3 x0), (proj 4 x0), (proj 5 x0), (proj 6 x0), (proj 7 x0), (proj 8 x0), (proj 9 x0), (proj 10 x0), (proj 11 x0), (proj 12 x0), (proj 13 x0), (proj 14 x0), (proj 15 x0)]), (.agg [(proj 0 x1), (proj 1 x1), (proj 2 x1), (proj 3 x1), (proj 4 x1), (proj 5 x1), (proj 6 x1), (proj 7 x1), (proj 8 x1), (proj 9 x1), (proj 10 x1), (proj 11 x1), (proj 12 x1), (proj 13 x1), (proj 14 x1), (proj 15 x1)])]) fun d1 =>
  ob (dUn .not d1) fun d2 =>
  ogd d2
   (some (.bool false))
   (ob (dEqA [.int, .int] (.agg [(proj 1 x0), (proj 2 x0)]) (.agg [(proj 1 x1), (proj 2 x1)])) fun b3 =>
   oif (.bool !b3)
    (some (.bool false))
    (P_r05_SameAt_4h R (.int .i64 0) x0 x1))
   none) := evP_of [] (by kernel_rfl)
theorem eq_r05_SameAt_4h (R : Orc) (t5 : DV) (b2 : DV) (b3 : DV) : P_r05_SameAt_4h R t5 b2 b3 =
  (ob (dLen (proj 14 b2)) fun d1 =>
  ob (dBin .lss t5 d1) fun d2 =>
  oif d2
   (ob (dIdx 7 (proj 14 b2) t5) fun d3 =>
   ob (dIdx 7 (proj 14 b3) t5) fun d4 =>
   ob (R.p F_r05_patAt [(.agg [(proj 0 d3), (proj 1 d3), (proj 2 d3), (proj 3 d3), (proj 4 d3), (proj 5 d3), (proj 6 d3)]), (.agg [(proj 0 d4), (proj 1 d4), (proj 2 d4), (proj 3 d4), (proj 4 d4), (proj 5 d4), (proj 6 d4)])]) fun d5 =>
   ob (dUn .not d5) fun d6 =>
   oif d6
    (some (.bool false))
    (ob (dBin .add t5 (.int .i64 1)) fun d7 =>
    P_r05_SameAt_4h R d7 b2 b3))
   (P_r05_SameAt_9h R (.int .i64 0) b2 b3)) := headP_of [] (by kernel_rfl)
theorem eq_r05_SameAt_9h (R : Orc) (t6 : DV) (b2 : DV) (b3 : DV) : P_r05_SameAt_9h R t6 b2 b3 =
  (ob (dLen (proj 15 b2)) fun d1 =>
  ob (dBin .lss t6 d1) fun d2 =>
  oif d2
   (ob (dIdx 16 (proj 15 b2) t6) fun d3 =>
   ob (dIdx 16 (proj 15 b3) t6) fun d4 =>
   ob (R.p F_r05_SameAt [(.agg [(proj 0 d3), (proj 1 d3), (proj 2 d3), (proj 3 d3), (proj 4 d3), (proj 5 d3), (proj 6 d3), (proj 7 d3), (proj 8 d3), (proj 9 d3), (proj 10 d3), (proj 11 d3), (proj 12 d3), (proj 13 d3), (proj 14 d3), (proj 15 d3)]), (.agg [(proj 0 d4), (proj 1 d4), (proj 2 d4), (proj 3 d4), (proj 4 d4), (proj 5 d4), (proj 6 d4), (proj 7 d4), (proj 8 d4), (proj 9 d4), (proj 10 d4), (proj 11 d4), (proj 12 d4), (proj 13 d4), (proj 14 d4), (proj 15 d4)])]) fun d5 =>
   ob (dUn .not d5) fun d6 =>
   oif d6
    (some (.bool false))
    (ob (dBin .add t6 (.int .i64 1)) fun d7 =>
    P_r05_SameAt_9h R d7 b2 b3))
   (some (.bool true))) := headP_of [] (by kernel_rfl)
theorem call_r05_SameAt (x0 : DV) (x1 : DV) {d : DV} (h : P_r05_SameAt (run cfg) x0 x1 = some d) : (run cfg).p F_r05_SameAt [x0, x1] = some d :=
  run_pure (fn := Try.f139) (c := code_r05_SameAt) (by kernel_rfl) Try.func139 (by kernel_rfl) ((show _ = P_r05_SameAt (run cfg) x0 x1 by kernel_rfl).trans h)

/-! ### r01_lower -/
noncomputable def code_r01_lower : Code := Try.f140.body.getD .skip
noncomputable def P_r01_lower (R : Orc) (x0 : DV) : Option DV := evP cfg R fl_r01_lower (retP cfg.P Try.f140) [] code_r01_lower (initSt Try.f140 [(x0, .val)] [])
theorem eq_r01_lower (R : Orc) (x0 : DV) : P_r01_lower R x0 =
  (ob (dBin .geq x0 (.int .u8 97)) fun d1 =>
  ogd d1
   (ob (dBin .leq x0 (.int .u8 122)) fun d2 =>
   some d2)
   (some (.bool false))
   none) := evP_of [] (by kernel_rfl)
theorem call_r01_lower (x0 : DV) {d : DV} (h : P_r01_lower (run cfg) x0 = some d) : (run cfg).p F_r01_lower [x0] = some d :=
  run_pure (fn := Try.f140) (c := code_r01_lower) (by kernel_rfl) Try.func140 (by kernel_rfl) ((show _ = P_r01_lower (run cfg) x0 by kernel_rfl).trans h)

/-! ### r01_part -/
noncomputable def code_r01_part : Code := Try.f141.body.getD .skip
noncomputable def P_r01_part (R : Orc) (x0 : DV) : Option DV := evP cfg R fl_r01_part (retP cfg.P Try.f141) [] code_r01_part (initSt Try.f141 [(x0, .val)] [])
set_option maxRecDepth 100000 in
theorem eq_r01_part (R : Orc) (x0 : DV) : P_r01_part R x0 =
  (ob (R.p F_r01_lower [x0]) fun d1 =>
  ogd d1
   (some (.bool true))
   (ob (R.p F_r01_digit [x0]) fun d2 =>
   ogd d2
    (some (.bool true))
    (ob (dBin .geq x0 (.int .u8 65)) fun d3 =>
    ogd d3
     (ob (dBin .leq x0 (.int .u8 90)) fun d4 =>
     ogd d4
      (some (.bool true))
      (ob (dBin .eql x0 (.int .u8 95)) fun d5 =>
      ogd d5
       (some (.bool true))
       (ob (dBin .eql x0 (.int .u8 39)) fun d6 =>
       some d6)
       none)
      none)
     (ob (dBin .eql x0 (.int .u8 95)) fun d7 =>
     ogd d7
      (some (.bool true))
      (ob (dBin .eql x0 (.int .u8 39)) fun d8 =>
      some d8)
      none)
     none)
    none)
   none) := evP_of [] (by kernel_rfl)
theorem call_r01_part (x0 : DV) {d : DV} (h : P_r01_part (run cfg) x0 = some d) : (run cfg).p F_r01_part [x0] = some d :=
  run_pure (fn := Try.f141) (c := code_r01_part) (by kernel_rfl) Try.func141 (by kernel_rfl) ((show _ = P_r01_part (run cfg) x0 by kernel_rfl).trans h)

/-! ### r01_Key -/
noncomputable def code_r01_Key : Code := Try.f142.body.getD .skip
noncomputable def P_r01_Key (R : Orc) (x0 : DV) : Option DV := evP cfg R fl_r01_Key (retP cfg.P Try.f142) [] code_r01_Key (initSt Try.f142 [(x0, .val)] [])
noncomputable def P_r01_Key_2h (R : Orc) (t0 : DV) (t3 : DV) : Option DV := headP cfg R fl_r01_Key (retP cfg.P Try.f142) [true, false, true, false] code_r01_Key ⟨spread .undef 40 0 [(0, t0), (3, t3)], spread .val 40 0 [], spread none 40 0 [], []⟩
noncomputable def P_r01_Key_8h (R : Orc) (t0 : DV) (t4 : DV) (t5 : DV) : Option DV := headP cfg R fl_r01_Key (retP cfg.P Try.f142) [true, true, true, false, true, false] code_r01_Key ⟨spread .undef 40 0 [(0, t0), (4, t4), (5, t5)], spread .val 40 0 [], spread none 40 0 [], []⟩
theorem eq_r01_Key (R : Orc) (x0 : DV) : P_r01_Key R x0 =
  (P_r01_Key_2h R x0 (.int .i64 0)) := evP_of [] (by kernel_rfl)
theorem eq_r01_Key_2h (R : Orc) (t0 : DV) (t3 : DV) : P_r01_Key_2h R t0 t3 =
  (ob (dLenS t0) fun d1 =>
  ob (dBin .lss t3 d1) fun d2 =>
  oif d2
   (ob (dStrIdx t0 t3) fun d3 =>
   ob (R.p F_r01_lower [d3]) fun d4 =>
   ob (dUn .not d4) fun d5 =>
   oif d5
    (some (.bool false))
    (ob (dBin .add t3 (.int .i64 1)) fun d6 =>
    P_r01_Key_2h R t0 d6))
   (ob (dBin .add (.str ⟨#[32]⟩) t0) fun d7 =>
   ob (dBin .add d7 (.str ⟨#[32]⟩)) fun d8 =>
   P_r01_Key_8h R t0 d8 (.int .i64 0))) := headP_of [] (by kernel_rfl)
theorem eq_r01_Key_8h (R : Orc) (t0 : DV) (t4 : DV) (t5 : DV) : P_r01_Key_8h R t0 t4 t5 =
  (ob (dLenS t4) fun d1 =>
  ob (dBin .add t5 d1) fun d2 =>
  ob (dBin .leq d2 (.int .i64 81)) fun d3 =>
  oif d3
   (ob (dLenS t0) fun d4 =>
   ob (dBin .gtr d4 (.int .i64 0)) fun d5 =>
   ogd d5
    (ob (dLenS t4) fun d6 =>
    ob (dBin .add t5 d6) fun d7 =>
    ob (dSliceS (.str ⟨#[32, 108, 101, 116, 32, 114, 101, 99, 32, 105, 110, 32, 102, 117, 110, 32, 105, 102, 32, 116, 104, 101, 110, 32, 101, 108, 115, 101, 32, 109, 97, 116, 99, 104, 32, 119, 105, 116, 104, 32, 101, 110, 100, 32, 116, 114, 117, 101, 32, 102, 97, 108, 115, 101, 32, 105, 110, 116, 32, 98, 111, 111, 108, 32, 115, 116, 114, 105, 110, 103, 32, 117, 110, 105, 116, 32, 108, 105, 115, 116, 32]⟩) (some t5) (some d7)) fun d8 =>
    ob (dBin .eql d8 t4) fun d9 =>
    oif d9
     (some (.bool true))
     (ob (dBin .add t5 (.int .i64 1)) fun d10 =>
     P_r01_Key_8h R t0 t4 d10))
    (ob (dBin .add t5 (.int .i64 1)) fun d11 =>
    P_r01_Key_8h R t0 t4 d11)
    none)
   (some (.bool false))) := headP_of [] (by kernel_rfl)
theorem call_r01_Key (x0 : DV) {d : DV} (h : P_r01_Key (run cfg) x0 = some d) : (run cfg).p F_r01_Key [x0] = some d :=
  run_pure (fn := Try.f142) (c := code_r01_Key) (by kernel_rfl) Try.func142 (by kernel_rfl) ((show _ = P_r01_Key (run cfg) x0 by kernel_rfl).trans h)

/-! ### r03_In -/
noncomputable def code_r03_In : Code := Try.f143.body.getD .skip
noncomputable def P_r03_In (R : Orc) (x0 : DV) (x1 : DV) : Option DV := evP cfg R fl_r03_In (retP cfg.P Try.f143) [] code_r03_In (initSt Try.f143 [(x0, .val), (x1, .val)] [])
noncomputable def P_r03_In_2h (R : Orc) (t0 : DV) (t1 : DV) (t5 : DV) : Option DV := headP cfg R fl_r03_In (retP cfg.P Try.f143) [true, false, true, false] code_r03_In ⟨spread .undef 18 0 [(0, t0), (1, t1), (5, t5)], spread .val 18 0 [], spread none 18 0 [], []⟩
theorem eq_r03_In (R : Orc) (x0 : DV) (x1 : DV) : P_r03_In R x0 x1 =
  (P_r03_In_2h R x0 x1 (.int .i64 0)) := evP_of [] (by kernel_rfl)
theorem eq_r03_In_2h (R : Orc) (t0 : DV) (t1 : DV) (t5 : DV) : P_r03_In_2h R t0 t1 t5 =
  (ob (dLen t0) fun d1 =>
  ob (dBin .lss t5 d1) fun d2 =>
  oif d2
   (ob (dIdx 1 t0 t5) fun d3 =>
   og (isLeaf d3) <|
   ob (dBin .eql d3 t1) fun d4 =>
   oif d4
    (some (.bool true))
    (ob (dBin .add t5 (.int .i64 1)) fun d5 =>
    P_r03_In_2h R t0 t1 d5))
   (some (.bool false))) := headP_of [] (by kernel_rfl)
theorem call_r03_In (x0 : DV) (x1 : DV) {d : DV} (h : P_r03_In (run cfg) x0 x1 = some d) : (run cfg).p F_r03_In [x0, x1] = some d :=
  run_pure (fn := Try.f143) (c := code_r03_In) (by kernel_rfl) Try.func143 (by kernel_rfl) ((show _ = P_r03_In (run cfg) x0 x1 by kernel_rfl).trans h)

/-! ### term_one -/
noncomputable def code_term_one : Code := Try.f144.body.getD .skip
noncomputable def P_term_one (R : Orc) (x0 : DV) : Option DV := evP cfg R fl_term_one (retP cfg.P Try.f144) [] code_term_one (initSt Try.f144 [(x0, .val)] [])
noncomputable def P_term_one_4 (R : Orc) (b1 : DV) (b3 : DV) : Option DV := evP cfg R fl_term_one (retP cfg.P Try.f144) [true, true, false, false, true, true] code_term_one ⟨spread .undef 183 0 [], spread .val 183 0 [(1, (.loc 1 0)), (3, (.loc 3 0))], spread none 183 0 [(1, some [((proj 0 b1), .val), ((proj 1 b1), .val), ((proj 2 b1), .val), ((proj 3 b1), .val), ((proj 4 b1), .val), ((proj 5 b1), .val), ((proj 6 b1), .val), ((proj 7 b1), .val), ((proj 8 b1), .val), ((proj 9 b1), .val), ((proj 10 b1), .val), ((proj 11 b1), .val), ((proj 12 b1), .val), ((proj 13 b1), .val), ((proj 14 b1), .val), ((proj 15 b1), .val), ((proj 16 b1), .val), ((proj 17 b1), .val), ((proj 18 b1), .val), ((proj 19 b1), .val)]), (3, some [((proj 0 b3), .val), ((proj 1 b3), .val), ((proj 2 b3), .val), ((proj 3 b3), .val), ((proj 4 b3), .val), ((proj 5 b3), .val), ((proj 6 b3), .val), ((proj 7 b3), .val), ((proj 8 b3), .val), ((proj 9 b3), .val), ((proj 10 b3), .val), ((proj 11 b3), .val), ((proj 12 b3), .val)])], []⟩
noncomputable def P_term_one_6 (R : Orc) (b1 : DV) (b3 : DV) : Option DV := evP cfg R fl_term_one (retP cfg.P Try.f144) [true, true, false, false, true, true, true, true] code_term_one ⟨spread .undef 183 0 [], spread .val 183 0 [(1, (.loc 1 0)), (3, (.loc 3 0))], spread none 183 0 [(1, some [((proj 0 b1), .val), ((proj 1 b1), .val), ((proj 2 b1), .val), ((proj 3 b1), .val), ((proj 4 b1), .val), ((proj 5 b1), .val), ((proj 6 b1), .val), ((proj 7 b1), .val), ((proj 8 b1), .val), ((proj 9 b1), .val), ((proj 10 b1), .val), ((proj 11 b1), .val), ((proj 12 b1), .val), ((proj 13 b1), .val), ((proj 14 b1), .val), ((proj 15 b1), .val), ((proj 16 b1), .val), ((proj 17 b1), .val), ((proj 18 b1), .val), ((proj 19 b1), .val)]), (3, some [((proj 0 b3), .val), ((proj 1 b3), .val), ((proj 2 b3), .val), ((proj 3 b3), .val), ((proj 4 b3), .val), ((proj 5 b3), .val), ((proj 6 b3), .val), ((proj 7 b3), .val), ((proj 8 b3), .val), ((proj 9 b3), .val), ((proj 10 b3), .val), ((proj 11 b3), .val), ((proj 12 b3), .val)])], []⟩
noncomputable def P_term_one_8 (R : Orc) (b1 : DV) (b3 : DV) : Option DV := evP cfg R fl_term_one (retP cfg.P Try.f144) [true, true, false, false, true, true, true, true, true, true] code_term_one ⟨spread .undef 183 0 [], spread .val 183 0 [(1, (.loc 1 0)), (3, (.loc 3 0))], spread none 183 0 [(1, some [((proj 0 b1), .val), ((proj 1 b1), .val), ((proj 2 b1), .val), ((proj 3 b1), .val), ((proj 4 b1), .val), ((proj 5 b1), .val), ((proj 6 b1), .val), ((proj 7 b1), .val), ((proj 8 b1), .val), ((proj 9 b1), .val), ((proj 10 b1), .val), ((proj 11 b1), .val), ((proj 12 b1), .val), ((proj 13 b1), .val), ((proj 14 b1), .val), ((proj 15 b1), .val), ((proj 16 b1), .val), ((proj 17 b1), .val), ((proj 18 b1), .val), ((proj 19 b1), .val)]), (3, some [((proj 0 b3), .val), ((proj 1 b3), .val), ((proj 2 b3), .val), ((proj 3 b3), .val), ((proj 4 b3), .val), ((proj 5 b3), .val), ((proj 6 b3), .val), ((proj 7 b3), .val), ((proj 8 b3), .val), ((proj 9 b3), .val), ((proj 10 b3), .val), ((proj 11 b3), .val), ((proj 12 b3), .val)])], []⟩
noncomputable def P_term_one_10 (R : Orc) (b1 : DV) (b3 : DV) : Option DV := evP cfg R fl_term_one (retP cfg.P Try.f144) [true, true, false, false, true, true, true, true, true, true, true, true] code_term_one ⟨spread .undef 183 0 [], spread .val 183 0 [(1, (.loc 1 0)), (3, (.loc 3 0))], spread none 183 0 [(1, some [((proj 0 b1), .val), ((proj 1 b1), .val), ((proj 2 b1), .val), ((proj 3 b1), .val), ((proj 4 b1), .val), ((proj 5 b1), .val), ((proj 6 b1), .val), ((proj 7 b1), .val), ((proj 8 b1), .val), ((proj 9 b1), .val), ((proj 10 b1), .val), ((proj 11 b1), .val), ((proj 12 b1), .val), ((proj 13 b1), .val), ((proj 14 b1), .val), ((proj 15 b1), .val), ((proj 16 b1), .val), ((proj 17 b1), .val), ((proj 18 b1), .val), ((proj 19 b1), .val)]), (3, some [((proj 0 b3), .val), ((proj 1 b3), .val), ((proj 2 b3), .val), ((proj 3 b3), .val), ((proj 4 b3), .val), ((proj 5 b3), .val), ((proj 6 b3), .val), ((proj 7 b3), .val), ((proj 8 b3), .val), ((proj 9 b3), .val), ((proj 10 b3), .val), ((proj 11 b3), .val), ((proj 12 b3), .val)])], []⟩
noncomputable def P_term_one_12 (R : Orc) (b1 : DV) (b3 : DV) : Option DV := evP cfg R fl_term_one (retP cfg.P Try.f144) [true, true, false, false, true, true, true, true, true, true, true, true, true, true] code_term_one ⟨spread .undef 183 0 [], spread .val 183 0 [(1, (.loc 1 0)), (3, (.loc 3 0))], spread none 183 0 [(1, some [((proj 0 b1), .val), ((proj 1 b1), .val), ((proj 2 b1), .val), ((proj 3 b1), .val), ((proj 4 b1), .val), ((proj 5 b1), .val), ((proj 6 b1), .val), ((proj 7 b1), .val), ((proj 8 b1), .val), ((proj 9 b1), .val), ((proj 10 b1), .val), ((proj 11 b1), .val), ((proj 12 b1), .val), ((proj 13 b1), .val), ((proj 14 b1), .val), ((proj 15 b1), .val), ((proj 16 b1), .val), ((proj 17 b1), .val), ((proj 18 b1), .val), ((proj 19 b1), .val)]), (3, some [((proj 0 b3), .val), ((proj 1 b3), .val), ((proj 2 b3), .val), ((proj 3 b3), .val), ((proj 4 b3), .val), ((proj 5 b3), .val), ((proj 6 b3), .val), ((proj 7 b3), .val), ((proj 8 b3), .val), ((proj 9 b3), .val), ((proj 10 b3), .val), ((proj 11 b3), .val), ((proj 12 b3), .val)])], []⟩
set_option maxRecDepth 100000 in
theorem eq_term_one (R : Orc) (x0 : DV) : P_term_one R x0 =
  (og (isAggN 20 x0) <|
  ob (R.p F_term_shapeOf [(.agg [(proj 0 x0), (proj 1 x0), (proj 2 x0), (proj 3 x0), (proj 4 x0), (proj 5 x0), (proj 6 x0), (proj 7 x0), (proj 8 x0), (proj 9 x0), (proj 10 x0), (proj 11 x0), (proj 12 x0), (proj 13 x0), (proj 14 x0), (proj 15 x0), (proj 16 x0), (proj 17 x0), (proj 18 x0), (proj 19 x0)])]) fun d1 =>
  ob (dExt 0 d1) fun d2 =>
  ob (dExt 1 d1) fun d3 =>
  og (isAggN 13 d2) <|
  ob (dUn .not d3) fun d4 =>
  ogd d4
   (some (.bool false))
   (ob (dLen (proj 19 x0)) fun d5 =>
   ob (dBin .neq d5 (proj 12 d2)) fun d6 =>
   ogd d6
    (some (.bool false))
    (ob (R.p F_term_named [(proj 0 d2), (proj 3 x0)]) fun d7 =>
    ob (dUn .not d7) fun d8 =>
    ogd d8
     (some (.bool false))
     (ob (R.p F_term_named [(proj 1 d2), (proj 4 x0)]) fun d9 =>
     ob (dUn .not d9) fun d10 =>
     ogd d10
      (some (.bool false))
      (ob (R.p F_term_typed [(proj 9 d2), (.agg [(proj 11 x0), (proj 12 x0), (proj 13 x0)])]) fun d11 =>
      ob (dUn .not d11) fun d12 =>
      ogd d12
       (some (.bool false))
       (ob (R.p F_term_typed [(proj 10 d2), (.agg [(proj 14 x0), (proj 15 x0), (proj 16 x0)])]) fun d13 =>
       ob (dUn .not d13) fun d14 =>
       oif d14
        (some (.bool false))
        (P_term_one_4 R x0 d2))
       none)
      none)
     none)
    none)
   none) := evP_of [4, 6, 8, 10, 12] (by kernel_rfl)
set_option maxRecDepth 100000 in
theorem eq_term_one_4 (R : Orc) (b1 : DV) (b3 : DV) : P_term_one_4 R b1 b3 =
  (ob (dUn .not (proj 2 b3)) fun d1 =>
  ogd d1
   (ob (dBin .neq (proj 5 b1) (.int .i64 0)) fun d2 =>
   ogd d2
    (some (.bool false))
    (ob (dBin .eql (proj 0 b1) (.int .i64 3)) fun d3 =>
    ogd d3
     (ob (dBin .neq (proj 5 b1) (.int .i64 0)) fun d4 =>
     ogd d4
      (ob (dBin .neq (proj 5 b1) (.int .i64 1)) fun d5 =>
      oif d5
       (some (.bool false))
       (P_term_one_6 R b1 b3))
      (P_term_one_6 R b1 b3)
      none)
     (P_term_one_6 R b1 b3)
     none)
    none)
   (ob (dBin .eql (proj 0 b1) (.int .i64 3)) fun d6 =>
   ogd d6
    (ob (dBin .neq (proj 5 b1) (.int .i64 0)) fun d7 =>
    ogd d7
     (ob (dBin .neq (proj 5 b1) (.int .i64 1)) fun d8 =>
     oif d8
      (some (.bool false))
      (P_term_one_6 R b1 b3))
     (P_term_one_6 R b1 b3)
     none)
    (P_term_one_6 R b1 b3)
    none)
   none) := evP_of [4, 6, 8, 10, 12] (by kernel_rfl)
set_option maxRecDepth 100000 in
theorem eq_term_one_6 (R : Orc) (b1 : DV) (b3 : DV) : P_term_one_6 R b1 b3 =
  (ob (dUn .not (proj 3 b3)) fun d1 =>
  ogd d1
   (ob (dBin .neq (proj 6 b1) (.str ⟨#[]⟩)) fun d2 =>
   ogd d2
    (some (.bool false))
    (ob (dLenS (proj 6 b1)) fun d3 =>
    ob (dBin .gtr d3 (.int .i64 200)) fun d4 =>
    ogd d4
     (some (.bool false))
     (ob (dUn .not (proj 5 b3)) fun d5 =>
     ogd d5
      (ob (dEqA [.int, .int] (.agg [(proj 1 b1), (proj 2 b1)]) (.agg [(.int .i64 0), (.int .i64 0)])) fun b6 =>
      oif (.bool !b6)
       (some (.bool false))
       (P_term_one_8 R b1 b3))
      (P_term_one_8 R b1 b3)
      none)
     none)
    none)
   (ob (dLenS (proj 6 b1)) fun d7 =>
   ob (dBin .gtr d7 (.int .i64 200)) fun d8 =>
   ogd d8
    (some (.bool false))
    (ob (dUn .not (proj 5 b3)) fun d9 =>
    ogd d9
     (ob (dEqA [.int, .int] (.agg [(proj 1 b1), (proj 2 b1)]) (.agg [(.int .i64 0), (.int .i64 0)])) fun b10 =>
     oif (.bool !b10)
      (some (.bool false))
      (P_term_one_8 R b1 b3))
     (P_term_one_8 R b1 b3)
     none)
    none)
   none) := evP_of [4, 6, 8, 10, 12] (by kernel_rfl)
set_option maxRecDepth 100000 in
theorem eq_term_one_8 (R : Orc) (b1 : DV) (b3 : DV) : P_term_one_8 R b1 b3 =
  (ogd (proj 4 b3)
   (ob (dBin .lss (proj 7 b1) (.int .i64 1)) fun d1 =>
   ogd d1
    (some (.bool false))
    (ob (dBin .gtr (proj 7 b1) (.int .i64 7)) fun d2 =>
    ogd d2
     (some (.bool false))
     (ob (dUn .not (proj 4 b3)) fun d3 =>
     ogd d3
      (ob (dBin .neq (proj 7 b1) (.int .i64 0)) fun d4 =>
      oif d4
       (some (.bool false))
       (P_term_one_10 R b1 b3))
      (P_term_one_10 R b1 b3)
      none)
     none)
    none)
   (ob (dUn .not (proj 4 b3)) fun d5 =>
   ogd d5
    (ob (dBin .neq (proj 7 b1) (.int .i64 0)) fun d6 =>
    oif d6
     (some (.bool false))
     (P_term_one_10 R b1 b3))
    (P_term_one_10 R b1 b3)
    none)
   none) := evP_of [4, 6, 8, 10, 12] (by kernel_rfl)
set_option maxRecDepth 100000 in
theorem eq_term_one_10 (R : Orc) (b1 : DV) (b3 : DV) : P_term_one_10 R b1 b3 =
  (ob (dUn .not (proj 11 b3)) fun d1 =>
  ogd d1
   (ob (dBin .neq (proj 8 b1) (.int .i64 0)) fun d2 =>
   ogd d2
    (some (.bool false))
    (ogd (proj 9 b1)
     (some (.bool false))
     (ob (dBin .lss (proj 8 b1) (.int .i64 0)) fun d3 =>
     ogd d3
      (some (.bool false))
      (ob (dBin .gtr (proj 8 b1) (.int .i64 1048576)) fun d4 =>
      oif d4
       (some (.bool false))
       (P_term_one_12 R b1 b3))
      none)
     none)
    none)
   (ob (dBin .lss (proj 8 b1) (.int .i64 0)) fun d5 =>
   ogd d5
    (some (.bool false))
    (ob (dBin .gtr (proj 8 b1) (.int .i64 1048576)) fun d6 =>
    oif d6
     (some (.bool false))
     (P_term_one_12 R b1 b3))
    none)
   none) := evP_of [4, 6, 8, 10, 12] (by kernel_rfl)
set_option maxRecDepth 100000 in
theorem eq_term_one_12 (R : Orc) (b1 : DV) (b3 : DV) : P_term_one_12 R b1 b3 =
  (ob (dUn .not (proj 6 b3)) fun d1 =>
  ogd d1
   (ob (dLen (proj 10 b1)) fun d2 =>
   ob (dBin .gtr d2 (.int .i64 0)) fun d3 =>
   ogd d3
    (some (.bool false))
    (ob (dUn .not (proj 7 b3)) fun d4 =>
    ogd d4
     (ob (dLen (proj 17 b1)) fun d5 =>
     ob (dBin .gtr d5 (.int .i64 0)) fun d6 =>
     ogd d6
      (some (.bool false))
      (ob (dUn .not (proj 8 b3)) fun d7 =>
      ogd d7
       (ob (dLen (proj 18 b1)) fun d8 =>
       ob (dBin .gtr d8 (.int .i64 0)) fun d9 =>
       oif d9
        (some (.bool false))
        (ob (R.p F_term_lists [(.agg [(proj 0 b1), (proj 1 b1), (proj 2 b1), (proj 3 b1), (proj 4 b1), (proj 5 b1), (proj 6 b1), (proj 7 b1), (proj 8 b1), (proj 9 b1), (proj 10 b1), (proj 11 b1), (proj 12 b1), (proj 13 b1), (proj 14 b1), (proj 15 b1), (proj 16 b1), (proj 17 b1), (proj 18 b1), (proj 19 b1)])]) fun d10 =>
        some d10))
       (ob (R.p F_term_lists [(.agg [(proj 0 b1), (proj 1 b1), (proj 2 b1), (proj 3 b1), (proj 4 b1), (proj 5 b1), (proj 6 b1), (proj 7 b1), (proj 8 b1), (proj 9 b1), (proj 10 b1), (proj 11 b1), (proj 12 b1), (proj 13 b1), (proj 14 b1), (proj 15 b1), (proj 16 b1), (proj 17 b1), (proj 18 b1), (proj 19 b1)])]) fun d11 =>
       some d11)
       none)
      none)
     (ob (dUn .not (proj 8 b3)) fun d12 =>
     ogd d12
      (ob (dLen (proj 18 b1)) fun d13 =>
      ob (dBin .gtr d13 (.int .i64 0)) fun d14 =>
      oif d14
       (some (.bool false))
       (ob (R.p F_term_lists [(.agg [(proj 0 b1), (proj 1 b1), (proj 2 b1), (proj 3 b1), (proj 4 b1), (proj 5 b1), (proj 6 b1), (proj 7 b1), (proj 8 b1), (proj 9 b1), (proj 10 b1), (proj 11 b1), (proj 12 b1), (proj 13 b1), (proj 14 b1), (proj 15 b1), (proj 16 b1), (proj 17 b1), (proj 18 b1), (proj 19 b1)])]) fun d15 =>
       some d15))
      (ob (R.p F_term_lists [(.agg [(proj 0 b1), (proj 1 b1), (proj 2 b1), (proj 3 b1), (proj 4 b1), (proj 5 b1), (proj 6 b1), (proj 7 b1), (proj 8 b1), (proj 9 b1), (proj 10 b1), (proj 11 b1), (proj 12 b1), (proj 13 b1), (proj 14 b1), (proj 15 b1), (proj 16 b1), (proj 17 b1), (proj 18 b1), (proj 19 b1)])]) fun d16 =>
      some d16)
      none)
     none)
    none)
   (ob (dUn .not (proj 7 b3)) fun d17 =>
   ogd d17
    (ob (dLen (proj 17 b1)) fun d18 =>
    ob (dBin .gtr d18 (.int .i64 0)) fun d19 =>
    ogd d19
     (some (.bool false))
     (ob (dUn .not (proj 8 b3)) fun d20 =>
     ogd d20
      (ob (dLen (proj 18 b1)) fun d21 =>
      ob (dBin .gtr d21 (.int .i64 0)) fun d22 =>
      oif d22
       (some (.bool false))
       (ob (R.p F_term_lists [(.agg [(proj 0 b1), (proj 1 b1), (proj 2 b1), (proj 3 b1), (proj 4 b1), (proj 5 b1), (proj 6 b1), (proj 7 b1), (proj 8 b1), (proj 9 b1), (proj 10 b1), (proj 11 b1), (proj 12 b1), (proj 13 b1), (proj 14 b1), (proj 15 b1), (proj 16 b1), (proj 17 b1), (proj 18 b1), (proj 19 b1)])]) fun d23 =>
       some d23))
      (ob (R.p F_term_lists [(.agg [(proj 0 b1), (proj 1 b1), (proj 2 b1), (proj 3 b1), (proj 4 b1), (proj 5 b1), (proj 6 b1), (proj 7 b1), (proj 8 b1), (proj 9 b1), (proj 10 b1), (proj 11 b1), (proj 12 b1), (proj 13 b1), (proj 14 b1), (proj 15 b1), (proj 16 b1), (proj 17 b1), (proj 18 b1), (proj 19 b1)])]) fun d24 =>
      some d24)
      none)
     none)
    (ob (dUn .not (proj 8 b3)) fun d25 =>
    ogd d25
     (ob (dLen (proj 18 b1)) fun d26 =>
     ob (dBin .gtr d26 (.int .i64 0)) fun d27 =>
     oif d27
      (some (.bool false))
      (ob (R.p F_term_lists [(.agg [(proj 0 b1), (proj 1 b1), (proj 2 b1), (proj 3 b1), (proj 4 b1), (proj 5 b1), (proj 6 b1), (proj 7 b1), (proj 8 b1), (proj 9 b1), (proj 10 b1), (proj 11 b1), (proj 12 b1), (proj 13 b1), (proj 14 b1), (proj 15 b1), (proj 16 b1), (proj 17 b1), (proj 18 b1), (proj 19 b1)])]) fun d28 =>
      some d28))
     (ob (R.p F_term_lists [(.agg [(proj 0 b1), (proj 1 b1), (proj 2 b1), (proj 3 b1), (proj 4 b1), (proj 5 b1), (proj 6 b1), (proj 7 b1), (proj 8 b1), (proj 9 b1), (proj 10 b1), (proj 11 b1), (proj 12 b1), (proj 13 b1), (proj 14 b1), (proj 15 b1), (proj 16 b1), (proj 17 b1), (proj 18 b1), (proj 19 b1)])]) fun d29 =>
     some d29)
     none)
    none)
   none) := evP_of [4, 6, 8, 10, 12] (by kernel_rfl)
theorem call_term_one (x0 : DV) {d : DV} (h : P_term_one (run cfg) x0 = some d) : (run cfg).p F_term_one [x0] = some d :=
  run_pure (fn := Try.f144) (c := code_term_one) (by kernel_rfl) Try.func144 (by kernel_rfl) ((show _ = P_term_one (run cfg) x0 by kernel_rfl).trans h)

/-! ### typ_Vars -/
noncomputable def code_typ_Vars : Code := Try.f145.body.getD .skip
noncomputable def P_typ_Vars (R : Orc) (x0 : DV) : Option DV := evP cfg R fl_typ_Vars (retP cfg.P Try.f145) [] code_typ_Vars (initSt Try.f145 [(x0, .val)] [])
theorem eq_typ_Vars (R : Orc) (x0 : DV) : P_typ_Vars R x0 =
  (og (isAggN 3 x0) <|
  ob (R.r F_typ_vars [((.agg [(proj 0 x0), (proj 1 x0), (proj 2 x0)]), .val), (.undef, (.map 0)), ((.list 1 []), .own)] [.map false []]) fun q1 =>
  some (q1.1.getD 0 .undef)) := evP_of [] (by kernel_rfl)
theorem call_typ_Vars (x0 : DV) {d : DV} (h : P_typ_Vars (run cfg) x0 = some d) : (run cfg).p F_typ_Vars [x0] = some d :=
  run_pure (fn := Try.f145) (c := code_typ_Vars) (by kernel_rfl) Try.func145 (by kernel_rfl) ((show _ = P_typ_Vars (run cfg) x0 by kernel_rfl).trans h)

/-! ### check_scope_takes -/
noncomputable def code_check_scope_takes : Code := Try.f146.body.getD .skip
noncomputable def P_check_scope_takes (R : Orc) (x0 : Nat) (x1 : DV) (sg : List SObj) : Option (List DV × List SObj) := evP cfg R fl_check_scope_takes (retR cfg.P Try.f146 sig_check_scope_takes) [] code_check_scope_takes (initSt Try.f146 [(.undef, (.map x0)), (x1, .val)] sg)
noncomputable def P_check_scope_takes_2h (R : Orc) (t0i : Nat) (t1 : DV) (t7 : DV) (t8 : DV) (t9 : DV) (sg : List SObj) : Option (List DV × List SObj) := headP cfg R fl_check_scope_takes (retR cfg.P Try.f146 sig_check_scope_takes) [true, false, true, false] code_check_scope_takes ⟨spread .undef 26 0 [(1, t1), (7, t7), (8, t8), (9, t9)], spread .val 26 0 [(0, (.map t0i))], spread none 26 0 [], sg⟩
theorem eq_check_scope_takes (R : Orc) (x0 : Nat) (x1 : DV) (sg : List SObj) : P_check_scope_takes R x0 x1 sg =
  (ob (dLen x1) fun d1 =>
  P_check_scope_takes_2h R x0 x1 x1 d1 (.int .i64 0) sg) := evP_of [] (by kernel_rfl)
theorem eq_check_scope_takes_2h (R : Orc) (t0i : Nat) (t1 : DV) (t7 : DV) (t8 : DV) (t9 : DV) (sg : List SObj) : P_check_scope_takes_2h R t0i t1 t7 t8 t9 sg =
  (ob (dBin .lss t9 t8) fun d1 =>
  oif d1
   (ob (dIdx 1 t7 t9) fun d2 =>
   og (isLeaf d2) <|
   og (isKey false d2 && true) <|
   ob (sgMap sg t0i) fun m3 =>
   og (m3.1 == false) <|
   ob (dBin .gtr ((mGet m3.2 d2).getD (.int .i64 0)) (.int .i64 0)) fun d4 =>
   ogd d4
    (some ([(.bool false)], sg))
    (ob (dSlice 1 t1 none (some t9)) fun d5 =>
    ob (R.p F_slices_Contains__int_int [d5, d2]) fun d6 =>
    oif d6
     (some ([(.bool false)], sg))
     (ob (dBin .add t9 (.int .i64 1)) fun d7 =>
     P_check_scope_takes_2h R t0i t1 t7 t8 d7 sg))
    none)
   (some ([(.bool true)], sg))) := headP_of [] (by kernel_rfl)
theorem call_check_scope_takes (x0 : Nat) (x1 : DV) (sg : List SObj) {q : List DV × List SObj} (h : P_check_scope_takes (run cfg) x0 x1 sg = some q) : (run cfg).r F_check_scope_takes [(.undef, (.map x0)), (x1, .val)] sg = some q :=
  run_raw (s := sig_check_scope_takes) (fn := Try.f146) (c := code_check_scope_takes) (by kernel_rfl) Try.func146 (by kernel_rfl) ((show _ = P_check_scope_takes (run cfg) x0 x1 sg by kernel_rfl).trans h)

/-! ### check_scope_enter -/
noncomputable def code_check_scope_enter : Code := Try.f147.body.getD .skip
noncomputable def P_check_scope_enter (R : Orc) (x0 : Nat) (x1 : DV) (x2 : DV) (sg : List SObj) : Option (List DV × List SObj) := evP cfg R fl_check_scope_enter (retR cfg.P Try.f147 sig_check_scope_enter) [] code_check_scope_enter (initSt Try.f147 [(.undef, (.map x0)), (x1, .val), (x2, .val)] sg)
noncomputable def P_check_scope_enter_1h (R : Orc) (t0i : Nat) (t2 : DV) (t8 : DV) (t9 : DV) (t10 : DV) (sg : List SObj) : Option (List DV × List SObj) := headP cfg R fl_check_scope_enter (retR cfg.P Try.f147 sig_check_scope_enter) [true, false] code_check_scope_enter ⟨spread .undef 20 0 [(2, t2), (8, t8), (9, t9), (10, t10)], spread .val 20 0 [(0, (.map t0i))], spread none 20 0 [], sg⟩
theorem eq_check_scope_enter (R : Orc) (x0 : Nat) (x1 : DV) (x2 : DV) (sg : List SObj) : P_check_scope_enter R x0 x1 x2 sg =
  (ob (dLen x1) fun d1 =>
  P_check_scope_enter_1h R x0 x2 x1 d1 (.int .i64 0) sg) := evP_of [] (by kernel_rfl)
theorem eq_check_scope_enter_1h (R : Orc) (t0i : Nat) (t2 : DV) (t8 : DV) (t9 : DV) (t10 : DV) (sg : List SObj) : P_check_scope_enter_1h R t0i t2 t8 t9 t10 sg =
  (ob (dBin .lss t10 t9) fun d1 =>
  oif d1
   (ob (dIdx 1 t8 t10) fun d2 =>
   og (isLeaf d2) <|
   og (isKey false d2 && true) <|
   ob (sgMap sg t0i) fun m3 =>
   og (m3.1 == false) <|
   ob (dBin .add ((mGet m3.2 d2).getD (.int .i64 0)) t2) fun d4 =>
   og (isKey false d2 && true && true) <|
   ob (sgMap sg t0i) fun m5 =>
   og (m5.1 == false) <|
   ob (dBin .add t10 (.int .i64 1)) fun d6 =>
   P_check_scope_enter_1h R t0i t2 t8 t9 d6 (sg.set t0i (.map false (mSet m5.2 d2 d4))))
   (some ([], sg))) := headP_of [] (by kernel_rfl)
theorem call_check_scope_enter (x0 : Nat) (x1 : DV) (x2 : DV) (sg : List SObj) {q : List DV × List SObj} (h : P_check_scope_enter (run cfg) x0 x1 x2 sg = some q) : (run cfg).r F_check_scope_enter [(.undef, (.map x0)), (x1, .val), (x2, .val)] sg = some q :=
  run_raw (s := sig_check_scope_enter) (fn := Try.f147) (c := code_check_scope_enter) (by kernel_rfl) Try.func147 (by kernel_rfl) ((show _ = P_check_scope_enter (run cfg) x0 x1 x2 sg by kernel_rfl).trans h)

end Go.Su
