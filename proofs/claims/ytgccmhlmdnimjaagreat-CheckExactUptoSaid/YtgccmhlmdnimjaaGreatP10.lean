/-
  Equations of the program's functions: by program.
-/
import Derived.Test.YtgccmhlmdnimjaaGreatP5
namespace Go.Su
open Go.Proofs
set_option linter.unusedVariables false

/-! ### check_scope_kids -/
noncomputable def code_check_scope_kids : Code := Tryz.f140.body.getD .skip
noncomputable def P_check_scope_kids (R : Orc) (x0 : Nat) (x1 : DV) (x2 : DV) (sg : List SObj) : Option (List DV × List SObj) := evP cfg R fl_check_scope_kids (retR cfg.P Tryz.f140 sig_check_scope_kids) [] code_check_scope_kids (initSt Tryz.f140 [(.undef, (.map x0)), (x1, .val), (x2, .val)] sg)
noncomputable def P_check_scope_kids_3h (R : Orc) (t0i : Nat) (t2 : DV) (t8 : DV) (t14 : DV) (t15 : DV) (t16 : DV) (sg : List SObj) : Option (List DV × List SObj) := headP cfg R fl_check_scope_kids (retR cfg.P Tryz.f140 sig_check_scope_kids) [true, true, false, true, false] code_check_scope_kids ⟨spread .undef 36 0 [(2, t2), (8, t8), (14, t14), (15, t15), (16, t16)], spread .val 36 0 [(0, (.map t0i)), (8, .own)], spread none 36 0 [], sg⟩
theorem eq_check_scope_kids (R : Orc) (x0 : Nat) (x1 : DV) (x2 : DV) (sg : List SObj) : P_check_scope_kids R x0 x1 x2 sg =
  (og (isAggN 20 x1) <|
  ob (dLen (proj 19 x1)) fun d1 =>
  P_check_scope_kids_3h R x0 x2 (.list 3 []) (proj 19 x1) d1 (.int .i64 0) sg) := evP_of [] (by kernel_rfl)
theorem eq_check_scope_kids_3h (R : Orc) (t0i : Nat) (t2 : DV) (t8 : DV) (t14 : DV) (t15 : DV) (t16 : DV) (sg : List SObj) : P_check_scope_kids_3h R t0i t2 t8 t14 t15 t16 sg =
  (ob (dBin .lss t16 t15) fun d1 =>
  oif d1
   (ob (dIdx 20 t14 t16) fun d2 =>
   ob (R.r F_check_scope_term [(.undef, (.map t0i)), ((.agg [(proj 0 d2), (proj 1 d2), (proj 2 d2), (proj 3 d2), (proj 4 d2), (proj 5 d2), (proj 6 d2), (proj 7 d2), (proj 8 d2), (proj 9 d2), (proj 10 d2), (proj 11 d2), (proj 12 d2), (proj 13 d2), (proj 14 d2), (proj 15 d2), (proj 16 d2), (proj 17 d2), (proj 18 d2), (proj 19 d2)]), .val), (t2, .val)] sg) fun q3 =>
   ob (dExt 0 (.tup q3.1)) fun d4 =>
   ob (dExt 1 (.tup q3.1)) fun d5 =>
   og (isAggN 3 d4) <|
   ob (dBin .neq d5 (.int .i64 0)) fun d6 =>
   oif d6
    (some ([(.list 3 []), d5], q3.2))
    (ob (dApp 3 t8 (.list 3 [(.agg [(proj 0 d4), (proj 1 d4), (proj 2 d4)])])) fun d7 =>
    ob (dBin .add t16 (.int .i64 1)) fun d8 =>
    P_check_scope_kids_3h R t0i t2 d7 t14 t15 d8 q3.2))
   (some ([t8, (.int .i64 0)], sg))) := headP_of [] (by kernel_rfl)
theorem call_check_scope_kids (x0 : Nat) (x1 : DV) (x2 : DV) (sg : List SObj) {q : List DV × List SObj} (h : P_check_scope_kids (run cfg) x0 x1 x2 sg = some q) : (run cfg).r F_check_scope_kids [(.undef, (.map x0)), (x1, .val), (x2, .val)] sg = some q :=
  run_raw (s := sig_check_scope_kids) (fn := Tryz.f140) (c := code_check_scope_kids) (by kernel_rfl) Tryz.func140 (by kernel_rfl) ((show _ = P_check_scope_kids (run cfg) x0 x1 x2 sg by kernel_rfl).trans h)

/-! ### check_scope_of -/
noncomputable def code_check_scope_of : Code := Tryz.f141.body.getD .skip
noncomputable def P_check_scope_of (R : Orc) (x0 : Nat) (x1 : DV) (x2 : DV) (sg : List SObj) : Option (List DV × List SObj) := evP cfg R fl_check_scope_of (retR cfg.P Tryz.f141 sig_check_scope_of) [] code_check_scope_of (initSt Tryz.f141 [(.undef, (.map x0)), (x1, .val), (x2, .val)] sg)
noncomputable def P_check_scope_of_13 (R : Orc) (t0i : Nat) (t2 : DV) (t11 : DV) (b4 : DV) (b6_0 : DV) (b6_1 : DV) (b6_2 : DV) (sg : List SObj) : Option (List DV × List SObj) := evP cfg R fl_check_scope_of (retR cfg.P Tryz.f141 sig_check_scope_of) [true, false, true, false, true, true, true, true, true, true, true, true] code_check_scope_of ⟨spread .undef 134 0 [(2, t2), (11, t11)], spread .val 134 0 [(0, (.map t0i)), (4, (.loc 4 0)), (6, (.loc 6 0))], spread none 134 0 [(4, some [((proj 0 b4), .val), ((proj 1 b4), .val), ((proj 2 b4), .val), ((proj 3 b4), .val), ((proj 4 b4), .val), ((proj 5 b4), .val), ((proj 6 b4), .val), ((proj 7 b4), .val), ((proj 8 b4), .val), ((proj 9 b4), .val), ((proj 10 b4), .val), ((proj 11 b4), .val), ((proj 12 b4), .val), ((proj 13 b4), .val), ((proj 14 b4), .val), ((proj 15 b4), .val), ((proj 16 b4), .val), ((proj 17 b4), .val), ((proj 18 b4), .val), ((proj 19 b4), .val)]), (6, some [(b6_0, .val), (b6_1, .val), (b6_2, .val)])], sg⟩
noncomputable def P_check_scope_of_21 (R : Orc) (t2 : DV) (t8 : DV) (t9 : DV) (b6_0 : DV) (b6_1 : DV) (b6_2 : DV) (sg : List SObj) : Option (List DV × List SObj) := evP cfg R fl_check_scope_of (retR cfg.P Tryz.f141 sig_check_scope_of) [true, false, true, false, true, true, true, true, true, true, true, true, true, false, true, true] code_check_scope_of ⟨spread .undef 134 0 [(2, t2), (8, t8), (9, t9)], spread .val 134 0 [(6, (.loc 6 0))], spread none 134 0 [(6, some [(b6_0, .val), (b6_1, .val), (b6_2, .val)])], sg⟩
set_option maxRecDepth 100000 in
theorem eq_check_scope_of (R : Orc) (x0 : Nat) (x1 : DV) (x2 : DV) (sg : List SObj) : P_check_scope_of R x0 x1 x2 sg =
  (og (isAggN 20 x1) <|
  ob (dBin .eql (proj 0 x1) (.int .i64 6)) fun d1 =>
  oif d1
   (og (isCell x2) <|
   some ([(.agg [(.int .i64 7), (.int .i64 0), x2]), (.int .i64 0)], sg))
   (ob (dBin .eql (proj 0 x1) (.int .i64 8)) fun d2 =>
   oif d2
    (ob (dIdx 3 x2 (.int .i64 1)) fun d3 =>
    ob (dBin .eql (proj 0 d3) (.int .i64 8)) fun d4 =>
    ogd d4
     (ob (dIdx 3 x2 (.int .i64 1)) fun d5 =>
     ob (dIdx 3 (proj 2 d5) (.int .i64 0)) fun d6 =>
     ob (dIdx 3 x2 (.int .i64 0)) fun d7 =>
     ob (R.p F_typ_Same [(.agg [(proj 0 d6), (proj 1 d6), (proj 2 d6)]), (.agg [(proj 0 d7), (proj 1 d7), (proj 2 d7)])]) fun d8 =>
     oif d8
      (ob (dIdx 3 x2 (.int .i64 1)) fun d9 =>
      some ([(.agg [(proj 0 d9), (proj 1 d9), (proj 2 d9)]), (.int .i64 0)], sg))
      (some ([(.agg [(.int .i64 0), (.int .i64 0), (.list 3 [])]), (.int .i64 4)], sg)))
     (some ([(.agg [(.int .i64 0), (.int .i64 0), (.list 3 [])]), (.int .i64 4)], sg))
     none)
    (ob (dBin .eql (proj 0 x1) (.int .i64 10)) fun d10 =>
    oif d10
     (ob (dIdx 3 x2 (.int .i64 0)) fun d11 =>
     ob (dBin .eql (proj 0 d11) (.int .i64 9)) fun d12 =>
     ogd d12
      (ob (dIdx 3 x2 (.int .i64 0)) fun d13 =>
      ob (dIdx 3 (proj 2 d13) (.int .i64 0)) fun d14 =>
      ob (dIdx 3 x2 (.int .i64 1)) fun d15 =>
      ob (R.p F_typ_Same [(.agg [(proj 0 d14), (proj 1 d14), (proj 2 d14)]), (.agg [(proj 0 d15), (proj 1 d15), (proj 2 d15)])]) fun d16 =>
      oif d16
       (ob (dIdx 3 x2 (.int .i64 0)) fun d17 =>
       ob (dIdx 3 (proj 2 d17) (.int .i64 1)) fun d18 =>
       some ([(.agg [(proj 0 d18), (proj 1 d18), (proj 2 d18)]), (.int .i64 0)], sg))
       (some ([(.agg [(.int .i64 0), (.int .i64 0), (.list 3 [])]), (.int .i64 4)], sg)))
      (some ([(.agg [(.int .i64 0), (.int .i64 0), (.list 3 [])]), (.int .i64 4)], sg))
      none)
     (ob (dBin .eql (proj 0 x1) (.int .i64 13)) fun d19 =>
     oif d19
      (ob (dIdx 3 x2 (.int .i64 0)) fun d20 =>
      ob (dBin .eql (proj 0 d20) (.int .i64 2)) fun d21 =>
      ogd d21
       (ob (dIdx 3 x2 (.int .i64 1)) fun d22 =>
       ob (dIdx 3 x2 (.int .i64 2)) fun d23 =>
       ob (R.p F_typ_Same [(.agg [(proj 0 d22), (proj 1 d22), (proj 2 d22)]), (.agg [(proj 0 d23), (proj 1 d23), (proj 2 d23)])]) fun d24 =>
       oif d24
        (ob (dIdx 3 x2 (.int .i64 1)) fun d25 =>
        some ([(.agg [(proj 0 d25), (proj 1 d25), (proj 2 d25)]), (.int .i64 0)], sg))
        (some ([(.agg [(.int .i64 0), (.int .i64 0), (.list 3 [])]), (.int .i64 4)], sg)))
       (some ([(.agg [(.int .i64 0), (.int .i64 0), (.list 3 [])]), (.int .i64 4)], sg))
       none)
      (P_check_scope_of_13 R x0 x2 (proj 0 x1) x1 (.int .i64 0) (.int .i64 0) (.list 3 []) sg))))) := evP_of [13, 21] (by kernel_rfl)
set_option maxRecDepth 100000 in
theorem eq_check_scope_of_13 (R : Orc) (t0i : Nat) (t2 : DV) (t11 : DV) (b4 : DV) (b6_0 : DV) (b6_1 : DV) (b6_2 : DV) (sg : List SObj) : P_check_scope_of_13 R t0i t2 t11 b4 b6_0 b6_1 b6_2 sg =
  (ob (dBin .eql t11 (.int .i64 15)) fun d1 =>
  oif d1
   (ob (dBin .eql (proj 7 b4) (.int .i64 5)) fun d2 =>
   oif d2
    (P_check_scope_of_21 R t2 (.int .i64 1) (.int .i64 2) b6_0 b6_1 b6_2 sg)
    (ob (dBin .eql (proj 7 b4) (.int .i64 6)) fun d3 =>
    oif d3
     (P_check_scope_of_21 R t2 (.int .i64 1) (.int .i64 2) b6_0 b6_1 b6_2 sg)
     (ob (dBin .eql (proj 7 b4) (.int .i64 7)) fun d4 =>
     oif d4
      (P_check_scope_of_21 R t2 (.int .i64 3) (.int .i64 2) b6_0 b6_1 b6_2 sg)
      (P_check_scope_of_21 R t2 (.int .i64 1) (.int .i64 1) b6_0 b6_1 b6_2 sg))))
   (ob (dBin .eql t11 (.int .i64 16)) fun d5 =>
   oif d5
    (ob (R.r F_check_scope_has [(.undef, (.map t0i)), ((.list 3 [(.agg [(proj 11 b4), (proj 12 b4), (proj 13 b4)]), (.agg [(proj 14 b4), (proj 15 b4), (proj 16 b4)])]), .val)] sg) fun q6 =>
    ob (dUn .not (q6.1.getD 0 .undef)) fun d7 =>
    oif d7
     (some ([(.agg [(.int .i64 0), (.int .i64 0), (.list 3 [])]), (.int .i64 6)], q6.2))
     (ob (dIdx 3 t2 (.int .i64 0)) fun d8 =>
     ob (R.p F_typ_Same [(.agg [(proj 0 d8), (proj 1 d8), (proj 2 d8)]), (.agg [(proj 11 b4), (proj 12 b4), (proj 13 b4)])]) fun d9 =>
     ogd d9
      (ob (R.p F_agree_Agree [(.agg [(proj 11 b4), (proj 12 b4), (proj 13 b4)]), (.agg [(proj 14 b4), (proj 15 b4), (proj 16 b4)])]) fun d10 =>
      oif d10
       (some ([(.agg [(proj 14 b4), (proj 15 b4), (proj 16 b4)]), (.int .i64 0)], q6.2))
       (some ([(.agg [(.int .i64 0), (.int .i64 0), (.list 3 [])]), (.int .i64 4)], q6.2)))
      (some ([(.agg [(.int .i64 0), (.int .i64 0), (.list 3 [])]), (.int .i64 4)], q6.2))
      none))
    (some ([(.agg [(.int .i64 0), (.int .i64 0), (.list 3 [])]), (.int .i64 4)], sg)))) := evP_of [13, 21] (by kernel_rfl)
theorem eq_check_scope_of_21 (R : Orc) (t2 : DV) (t8 : DV) (t9 : DV) (b6_0 : DV) (b6_1 : DV) (b6_2 : DV) (sg : List SObj) : P_check_scope_of_21 R t2 t8 t9 b6_0 b6_1 b6_2 sg =
  (ob (dIdx 3 t2 (.int .i64 0)) fun d1 =>
  ob (dBin .eql (proj 0 d1) t8) fun d2 =>
  ogd d2
   (ob (dIdx 3 t2 (.int .i64 1)) fun d3 =>
   ob (dBin .eql (proj 0 d3) t8) fun d4 =>
   oif d4
    (og (isCell t9) <|
    some ([(.agg [t9, (.int .i64 0), (.list 3 [])]), (.int .i64 0)], sg))
    (some ([(.agg [(.int .i64 0), (.int .i64 0), (.list 3 [])]), (.int .i64 4)], sg)))
   (some ([(.agg [(.int .i64 0), (.int .i64 0), (.list 3 [])]), (.int .i64 4)], sg))
   none) := evP_of [13, 21] (by kernel_rfl)
theorem call_check_scope_of (x0 : Nat) (x1 : DV) (x2 : DV) (sg : List SObj) {q : List DV × List SObj} (h : P_check_scope_of (run cfg) x0 x1 x2 sg = some q) : (run cfg).r F_check_scope_of [(.undef, (.map x0)), (x1, .val), (x2, .val)] sg = some q :=
  run_raw (s := sig_check_scope_of) (fn := Tryz.f141) (c := code_check_scope_of) (by kernel_rfl) Tryz.func141 (by kernel_rfl) ((show _ = P_check_scope_of (run cfg) x0 x1 x2 sg by kernel_rfl).trans h)

/-! ### r17_bare -/
noncomputable def code_r17_bare : Code := Tryz.f142.body.getD .skip
noncomputable def P_r17_bare (R : Orc) (x0 : DV) : Option DV := evP cfg R fl_r17_bare (retP cfg.P Tryz.f142) [] code_r17_bare (initSt Tryz.f142 [(x0, .val)] [])
noncomputable def P_r17_bare_25 (R : Orc) (t9 : DV) (b1 : DV) (b2_0 : DV) (b2_1 : DV) (b2_2 : DV) (b2_3 : DV) (b2_4 : DV) (b2_5 : DV) (b2_6 : DV) (b2_7 : DV) (b2_8 : DV) (b2_9 : DV) (b2_10 : DV) (b2_11 : DV) (b2_12 : DV) (b2_13 : DV) (b2_14 : DV) (b2_15 : DV) (b2_16 : DV) (b2_17 : DV) (b2_18 : DV) (b2_19 : DV) (b4_0 : DV) (b4_1 : DV) (b4_2 : DV) (b4_3 : DV) (b4_4 : DV) (b4_5 : DV) (b4_6 : DV) (b4_7 : DV) (b4_8 : DV) (b4_9 : DV) (b4_10 : DV) (b4_11 : DV) (b4_12 : DV) (b4_13 : DV) (b4_14 : DV) (b4_15 : DV) (b4_16 : DV) (b4_17 : DV) (b4_18 : DV) (b4_19 : DV) : Option DV := evP cfg R fl_r17_bare (retP cfg.P Tryz.f142) [true, true, false, true, false, true, true, true, true, true, true, true, true, true, true, true, true, true, true] code_r17_bare ⟨spread .undef 123 0 [(9, t9)], spread .val 123 0 [(1, (.loc 1 0)), (2, (.loc 2 0)), (4, (.loc 4 0))], spread none 123 0 [(1, some [((proj 0 b1), .val), ((proj 1 b1), .val), ((proj 2 b1), .val), ((proj 3 b1), .val), ((proj 4 b1), .val), ((proj 5 b1), .val), ((proj 6 b1), .val), ((proj 7 b1), .val), ((proj 8 b1), .val), ((proj 9 b1), .val), ((proj 10 b1), .val), ((proj 11 b1), .val), ((proj 12 b1), .val), ((proj 13 b1), .val), ((proj 14 b1), .val), ((proj 15 b1), .val), ((proj 16 b1), .val), ((proj 17 b1), .val), ((proj 18 b1), .val), ((proj 19 b1), .val)]), (2, some [(b2_0, .val), (b2_1, .val), (b2_2, .val), (b2_3, .val), (b2_4, .val), (b2_5, .val), (b2_6, .val), (b2_7, .val), (b2_8, .val), (b2_9, .val), (b2_10, .val), (b2_11, .val), (b2_12, .val), (b2_13, .val), (b2_14, .val), (b2_15, .val), (b2_16, .val), (b2_17, .val), (b2_18, .val), (b2_19, .val)]), (4, some [(b4_0, .val), (b4_1, .val), (b4_2, .val), (b4_3, .val), (b4_4, .val), (b4_5, .val), (b4_6, .val), (b4_7, .val), (b4_8, .val), (b4_9, .val), (b4_10, .val), (b4_11, .val), (b4_12, .val), (b4_13, .val), (b4_14, .val), (b4_15, .val), (b4_16, .val), (b4_17, .val), (b4_18, .val), (b4_19, .val)])], []⟩
set_option maxRecDepth 100000 in
theorem eq_r17_bare (R : Orc) (x0 : DV) : P_r17_bare R x0 =
  (og (isAggN 20 x0) <|
  og (isCell (proj 0 x0)) <|
  ob (dBin .eql (proj 0 x0) (.int .i64 1)) fun d1 =>
  oif d1
   (og (isCell (proj 3 x0)) <|
   og (isCell (proj 17 x0)) <|
   some (.tup [(.agg [(proj 0 x0), (.int .i64 0), (.int .i64 0), (proj 3 x0), (.str ⟨#[]⟩), (.int .i64 0), (.str ⟨#[]⟩), (.int .i64 0), (.int .i64 0), (.bool false), (.list 1 []), (.int .i64 0), (.int .i64 0), (.list 3 []), (.int .i64 0), (.int .i64 0), (.list 3 []), (proj 17 x0), (.list 7 []), (.list 20 [])]), (.int .i64 0)]))
   (ob (dBin .eql (proj 0 x0) (.int .i64 2)) fun d2 =>
   oif d2
    (og (isCell (proj 5 x0)) <|
    some (.tup [(.agg [(proj 0 x0), (.int .i64 0), (.int .i64 0), (.str ⟨#[]⟩), (.str ⟨#[]⟩), (proj 5 x0), (.str ⟨#[]⟩), (.int .i64 0), (.int .i64 0), (.bool false), (.list 1 []), (.int .i64 0), (.int .i64 0), (.list 3 []), (.int .i64 0), (.int .i64 0), (.list 3 []), (.list 3 []), (.list 7 []), (.list 20 [])]), (.int .i64 0)]))
    (ob (dBin .eql (proj 0 x0) (.int .i64 3)) fun d3 =>
    oif d3
     (og (isCell (proj 5 x0)) <|
     some (.tup [(.agg [(proj 0 x0), (.int .i64 0), (.int .i64 0), (.str ⟨#[]⟩), (.str ⟨#[]⟩), (proj 5 x0), (.str ⟨#[]⟩), (.int .i64 0), (.int .i64 0), (.bool false), (.list 1 []), (.int .i64 0), (.int .i64 0), (.list 3 []), (.int .i64 0), (.int .i64 0), (.list 3 []), (.list 3 []), (.list 7 []), (.list 20 [])]), (.int .i64 0)]))
     (ob (dBin .eql (proj 0 x0) (.int .i64 4)) fun d4 =>
     oif d4
      (og (isCell (proj 6 x0)) <|
      some (.tup [(.agg [(proj 0 x0), (.int .i64 0), (.int .i64 0), (.str ⟨#[]⟩), (.str ⟨#[]⟩), (.int .i64 0), (proj 6 x0), (.int .i64 0), (.int .i64 0), (.bool false), (.list 1 []), (.int .i64 0), (.int .i64 0), (.list 3 []), (.int .i64 0), (.int .i64 0), (.list 3 []), (.list 3 []), (.list 7 []), (.list 20 [])]), (.int .i64 0)]))
      (ob (dBin .eql (proj 0 x0) (.int .i64 5)) fun d5 =>
      oif d5
       (some (.tup [(.agg [(proj 0 x0), (.int .i64 0), (.int .i64 0), (.str ⟨#[]⟩), (.str ⟨#[]⟩), (.int .i64 0), (.str ⟨#[]⟩), (.int .i64 0), (.int .i64 0), (.bool false), (.list 1 []), (.int .i64 0), (.int .i64 0), (.list 3 []), (.int .i64 0), (.int .i64 0), (.list 3 []), (.list 3 []), (.list 7 []), (.list 20 [])]), (.int .i64 0)]))
       (ob (dBin .eql (proj 0 x0) (.int .i64 7)) fun d6 =>
       oif d6
        (some (.tup [(.agg [(proj 0 x0), (.int .i64 0), (.int .i64 0), (.str ⟨#[]⟩), (.str ⟨#[]⟩), (.int .i64 0), (.str ⟨#[]⟩), (.int .i64 0), (.int .i64 0), (.bool false), (.list 1 []), (proj 11 x0), (proj 12 x0), (proj 13 x0), (.int .i64 0), (.int .i64 0), (.list 3 []), (.list 3 []), (.list 7 []), (.list 20 [])]), (.int .i64 0)]))
        (ob (dBin .eql (proj 0 x0) (.int .i64 6)) fun d7 =>
        oif d7
         (some (.tup [(.agg [(proj 0 x0), (.int .i64 0), (.int .i64 0), (.str ⟨#[]⟩), (.str ⟨#[]⟩), (.int .i64 0), (.str ⟨#[]⟩), (.int .i64 0), (.int .i64 0), (.bool false), (.list 1 []), (.int .i64 0), (.int .i64 0), (.list 3 []), (.int .i64 0), (.int .i64 0), (.list 3 []), (.list 3 []), (.list 7 []), (.list 20 [])]), (.int .i64 2)]))
         (ob (dBin .eql (proj 0 x0) (.int .i64 8)) fun d8 =>
         oif d8
          (some (.tup [(.agg [(proj 0 x0), (.int .i64 0), (.int .i64 0), (.str ⟨#[]⟩), (.str ⟨#[]⟩), (.int .i64 0), (.str ⟨#[]⟩), (.int .i64 0), (.int .i64 0), (.bool false), (.list 1 []), (.int .i64 0), (.int .i64 0), (.list 3 []), (.int .i64 0), (.int .i64 0), (.list 3 []), (.list 3 []), (.list 7 []), (.list 20 [])]), (.int .i64 2)]))
          (ob (dBin .eql (proj 0 x0) (.int .i64 10)) fun d9 =>
          oif d9
           (some (.tup [(.agg [(proj 0 x0), (.int .i64 0), (.int .i64 0), (.str ⟨#[]⟩), (.str ⟨#[]⟩), (.int .i64 0), (.str ⟨#[]⟩), (.int .i64 0), (.int .i64 0), (.bool false), (.list 1 []), (.int .i64 0), (.int .i64 0), (.list 3 []), (.int .i64 0), (.int .i64 0), (.list 3 []), (.list 3 []), (.list 7 []), (.list 20 [])]), (.int .i64 2)]))
           (ob (dBin .eql (proj 0 x0) (.int .i64 9)) fun d10 =>
           oif d10
            (og (isCell (proj 3 x0)) <|
            some (.tup [(.agg [(proj 0 x0), (.int .i64 0), (.int .i64 0), (proj 3 x0), (.str ⟨#[]⟩), (.int .i64 0), (.str ⟨#[]⟩), (.int .i64 0), (.int .i64 0), (.bool false), (.list 1 []), (proj 11 x0), (proj 12 x0), (proj 13 x0), (.int .i64 0), (.int .i64 0), (.list 3 []), (.list 3 []), (.list 7 []), (.list 20 [])]), (.int .i64 1)]))
            (P_r17_bare_25 R (proj 0 x0) x0 (.int .i64 0) (.int .i64 0) (.int .i64 0) (.str ⟨#[]⟩) (.str ⟨#[]⟩) (.int .i64 0) (.str ⟨#[]⟩) (.int .i64 0) (.int .i64 0) (.bool false) (.list 1 []) (.int .i64 0) (.int .i64 0) (.list 3 []) (.int .i64 0) (.int .i64 0) (.list 3 []) (.list 3 []) (.list 7 []) (.list 20 []) (proj 0 x0) (.int .i64 0) (.int .i64 0) (.str ⟨#[]⟩) (.str ⟨#[]⟩) (.int .i64 0) (.str ⟨#[]⟩) (.int .i64 0) (.int .i64 0) (.bool false) (.list 1 []) (.int .i64 0) (.int .i64 0) (.list 3 []) (.int .i64 0) (.int .i64 0) (.list 3 []) (.list 3 []) (.list 7 []) (.list 20 [])))))))))))) := evP_of [25] (by kernel_rfl)
set_option maxRecDepth 100000 in
theorem eq_r17_bare_25 (R : Orc) (t9 : DV) (b1 : DV) (b2_0 : DV) (b2_1 : DV) (b2_2 : DV) (b2_3 : DV) (b2_4 : DV) (b2_5 : DV) (b2_6 : DV) (b2_7 : DV) (b2_8 : DV) (b2_9 : DV) (b2_10 : DV) (b2_11 : DV) (b2_12 : DV) (b2_13 : DV) (b2_14 : DV) (b2_15 : DV) (b2_16 : DV) (b2_17 : DV) (b2_18 : DV) (b2_19 : DV) (b4_0 : DV) (b4_1 : DV) (b4_2 : DV) (b4_3 : DV) (b4_4 : DV) (b4_5 : DV) (b4_6 : DV) (b4_7 : DV) (b4_8 : DV) (b4_9 : DV) (b4_10 : DV) (b4_11 : DV) (b4_12 : DV) (b4_13 : DV) (b4_14 : DV) (b4_15 : DV) (b4_16 : DV) (b4_17 : DV) (b4_18 : DV) (b4_19 : DV) : P_r17_bare_25 R t9 b1 b2_0 b2_1 b2_2 b2_3 b2_4 b2_5 b2_6 b2_7 b2_8 b2_9 b2_10 b2_11 b2_12 b2_13 b2_14 b2_15 b2_16 b2_17 b2_18 b2_19 b4_0 b4_1 b4_2 b4_3 b4_4 b4_5 b4_6 b4_7 b4_8 b4_9 b4_10 b4_11 b4_12 b4_13 b4_14 b4_15 b4_16 b4_17 b4_18 b4_19 =
  (ob (dBin .eql t9 (.int .i64 11)) fun d1 =>
  oif d1
   (og (isCell (proj 3 b1)) <|
   og (isCell (proj 10 b1)) <|
   some (.tup [(.agg [b4_0, b4_1, b4_2, (proj 3 b1), b4_4, b4_5, b4_6, b4_7, b4_8, b4_9, (proj 10 b1), b4_11, b4_12, b4_13, b4_14, b4_15, b4_16, b4_17, b4_18, b4_19]), (.int .i64 2)]))
   (ob (dBin .eql t9 (.int .i64 12)) fun d2 =>
   oif d2
    (og (isCell (proj 3 b1)) <|
    og (isCell (proj 4 b1)) <|
    og (isCell (proj 10 b1)) <|
    some (.tup [(.agg [b4_0, b4_1, b4_2, (proj 3 b1), (proj 4 b1), b4_5, b4_6, b4_7, b4_8, b4_9, (proj 10 b1), (proj 11 b1), (proj 12 b1), (proj 13 b1), (proj 14 b1), (proj 15 b1), (proj 16 b1), b4_17, b4_18, b4_19]), (.int .i64 2)]))
    (ob (dBin .eql t9 (.int .i64 13)) fun d3 =>
    oif d3
     (some (.tup [(.agg [b4_0, b4_1, b4_2, b4_3, b4_4, b4_5, b4_6, b4_7, b4_8, b4_9, b4_10, b4_11, b4_12, b4_13, b4_14, b4_15, b4_16, b4_17, b4_18, b4_19]), (.int .i64 3)]))
     (ob (dBin .eql t9 (.int .i64 14)) fun d4 =>
     oif d4
      (og (isCell (proj 18 b1)) <|
      ob (dLen (proj 18 b1)) fun d5 =>
      ob (dBin .add d5 (.int .i64 1)) fun d6 =>
      some (.tup [(.agg [b4_0, (proj 1 b1), (proj 2 b1), b4_3, b4_4, b4_5, b4_6, b4_7, b4_8, b4_9, b4_10, b4_11, b4_12, b4_13, b4_14, b4_15, b4_16, b4_17, (proj 18 b1), b4_19]), d6]))
      (ob (dBin .eql t9 (.int .i64 15)) fun d7 =>
      oif d7
       (og (isCell (proj 7 b1)) <|
       some (.tup [(.agg [b4_0, (proj 1 b1), (proj 2 b1), b4_3, b4_4, b4_5, b4_6, (proj 7 b1), b4_8, b4_9, b4_10, b4_11, b4_12, b4_13, b4_14, b4_15, b4_16, b4_17, b4_18, b4_19]), (.int .i64 2)]))
       (ob (dBin .eql t9 (.int .i64 16)) fun d8 =>
       oif d8
        (og (isCell (proj 8 b1)) <|
        og (isCell (proj 9 b1)) <|
        some (.tup [(.agg [b4_0, b4_1, b4_2, b4_3, b4_4, b4_5, b4_6, b4_7, (proj 8 b1), (proj 9 b1), b4_10, (proj 11 b1), (proj 12 b1), (proj 13 b1), (proj 14 b1), (proj 15 b1), (proj 16 b1), b4_17, b4_18, b4_19]), (.int .i64 1)]))
        (some (.tup [(.agg [b4_0, b4_1, b4_2, b4_3, b4_4, b4_5, b4_6, b4_7, b4_8, b4_9, b4_10, b4_11, b4_12, b4_13, b4_14, b4_15, b4_16, b4_17, b4_18, b4_19]), (.int .i64 (-1))])))))))) := evP_of [25] (by kernel_rfl)
theorem call_r17_bare (x0 : DV) {d : DV} (h : P_r17_bare (run cfg) x0 = some d) : (run cfg).p F_r17_bare [x0] = some d :=
  run_pure (fn := Tryz.f142) (c := code_r17_bare) (by kernel_rfl) Tryz.func142 (by kernel_rfl) ((show _ = P_r17_bare (run cfg) x0 by kernel_rfl).trans h)

/-! ### r01_Name -/
noncomputable def code_r01_Name : Code := Tryz.f143.body.getD .skip
noncomputable def P_r01_Name (R : Orc) (x0 : DV) : Option DV := evP cfg R fl_r01_Name (retP cfg.P Tryz.f143) [] code_r01_Name (initSt Tryz.f143 [(x0, .val)] [])
noncomputable def P_r01_Name_4h (R : Orc) (t0 : DV) (t3 : DV) : Option DV := headP cfg R fl_r01_Name (retP cfg.P Tryz.f143) [true, true, false, true, false] code_r01_Name ⟨spread .undef 32 0 [(0, t0), (3, t3)], spread .val 32 0 [], spread none 32 0 [], []⟩
theorem eq_r01_Name (R : Orc) (x0 : DV) : P_r01_Name R x0 =
  (ob (dLenS x0) fun d1 =>
  ob (dBin .lss d1 (.int .i64 1)) fun d2 =>
  ogd d2
   (some (.bool false))
   (ob (dLenS x0) fun d3 =>
   ob (dBin .gtr d3 (.int .i64 32)) fun d4 =>
   ogd d4
    (some (.bool false))
    (ob (dStrIdx x0 (.int .i64 0)) fun d5 =>
    ob (R.p F_r01_lower [d5]) fun d6 =>
    ob (dUn .not d6) fun d7 =>
    oif d7
     (some (.bool false))
     (P_r01_Name_4h R x0 (.int .i64 0)))
    none)
   none) := evP_of [] (by kernel_rfl)
theorem eq_r01_Name_4h (R : Orc) (t0 : DV) (t3 : DV) : P_r01_Name_4h R t0 t3 =
  (ob (dLenS t0) fun d1 =>
  ob (dBin .lss t3 d1) fun d2 =>
  oif d2
   (ob (dStrIdx t0 t3) fun d3 =>
   ob (R.p F_r01_part [d3]) fun d4 =>
   ob (dUn .not d4) fun d5 =>
   oif d5
    (some (.bool false))
    (ob (dBin .add t3 (.int .i64 1)) fun d6 =>
    P_r01_Name_4h R t0 d6))
   (ob (R.p F_r01_Key [t0]) fun d7 =>
   ob (dUn .not d7) fun d8 =>
   some d8)) := headP_of [] (by kernel_rfl)
theorem call_r01_Name (x0 : DV) {d : DV} (h : P_r01_Name (run cfg) x0 = some d) : (run cfg).p F_r01_Name [x0] = some d :=
  run_pure (fn := Tryz.f143) (c := code_r01_Name) (by kernel_rfl) Tryz.func143 (by kernel_rfl) ((show _ = P_r01_Name (run cfg) x0 by kernel_rfl).trans h)

/-! ### r17_K_name -/
noncomputable def code_r17_K_name : Code := Tryz.f144.body.getD .skip
noncomputable def P_r17_K_name (R : Orc) (x0 : Nat) (x1 : DV) (x2 : DV) (x3 : DV) (sg : List SObj) : Option (List DV × List SObj) := evP cfg R fl_r17_K_name (retR cfg.P Tryz.f144 sig_r17_K_name) [] code_r17_K_name (initSt Tryz.f144 [(.undef, (.ptr x0 0)), (x1, .val), (x2, .val), (x3, .val)] sg)
noncomputable def P_r17_K_name_2h (R : Orc) (t0i : Nat) (t2 : DV) (t3 : DV) (t9 : DV) (b5 : DV) (b8_0 : DV) (b8_1 : DV) (b8_2 : DV) (sg : List SObj) : Option (List DV × List SObj) := headP cfg R fl_r17_K_name (retR cfg.P Tryz.f144 sig_r17_K_name) [true, true, false, false] code_r17_K_name ⟨spread .undef 75 0 [(2, t2), (3, t3), (9, t9)], spread .val 75 0 [(0, (.ptr t0i 0)), (5, (.loc 5 0)), (8, (.loc 8 0))], spread none 75 0 [(5, some [((proj 0 b5), .val), ((proj 1 b5), .val), ((proj 2 b5), .val), ((proj 3 b5), .val), ((proj 4 b5), .val), ((proj 5 b5), .val), ((proj 6 b5), .val), ((proj 7 b5), .val), ((proj 8 b5), .val), ((proj 9 b5), .val), ((proj 10 b5), .val), ((proj 11 b5), .val), ((proj 12 b5), .val), ((proj 13 b5), .val), ((proj 14 b5), .val), ((proj 15 b5), .val), ((proj 16 b5), .val), ((proj 17 b5), .val), ((proj 18 b5), .val), ((proj 19 b5), .val)]), (8, some [(b8_0, .val), (b8_1, .val), (b8_2, .val)])], sg⟩
noncomputable def P_r17_K_name_4 (R : Orc) (t0i : Nat) (t2 : DV) (t3 : DV) (t9 : DV) (b5 : DV) (b8_0 : DV) (b8_1 : DV) (b8_2 : DV) (sg : List SObj) : Option (List DV × List SObj) := evP cfg R fl_r17_K_name (retR cfg.P Tryz.f144 sig_r17_K_name) [true, true, true] code_r17_K_name ⟨spread .undef 75 0 [(2, t2), (3, t3), (9, t9)], spread .val 75 0 [(0, (.ptr t0i 0)), (5, (.loc 5 0)), (8, (.loc 8 0))], spread none 75 0 [(5, some [((proj 0 b5), .val), ((proj 1 b5), .val), ((proj 2 b5), .val), ((proj 3 b5), .val), ((proj 4 b5), .val), ((proj 5 b5), .val), ((proj 6 b5), .val), ((proj 7 b5), .val), ((proj 8 b5), .val), ((proj 9 b5), .val), ((proj 10 b5), .val), ((proj 11 b5), .val), ((proj 12 b5), .val), ((proj 13 b5), .val), ((proj 14 b5), .val), ((proj 15 b5), .val), ((proj 16 b5), .val), ((proj 17 b5), .val), ((proj 18 b5), .val), ((proj 19 b5), .val)]), (8, some [(b8_0, .val), (b8_1, .val), (b8_2, .val)])], sg⟩
noncomputable def P_r17_K_name_11h (R : Orc) (t0i : Nat) (t2 : DV) (t3 : DV) (t9 : DV) (t10 : DV) (b5 : DV) (b8_0 : DV) (b8_1 : DV) (b8_2 : DV) (sg : List SObj) : Option (List DV × List SObj) := headP cfg R fl_r17_K_name (retR cfg.P Tryz.f144 sig_r17_K_name) [true, true, true, true, true, false, true, false] code_r17_K_name ⟨spread .undef 75 0 [(2, t2), (3, t3), (9, t9), (10, t10)], spread .val 75 0 [(0, (.ptr t0i 0)), (5, (.loc 5 0)), (8, (.loc 8 0))], spread none 75 0 [(5, some [((proj 0 b5), .val), ((proj 1 b5), .val), ((proj 2 b5), .val), ((proj 3 b5), .val), ((proj 4 b5), .val), ((proj 5 b5), .val), ((proj 6 b5), .val), ((proj 7 b5), .val), ((proj 8 b5), .val), ((proj 9 b5), .val), ((proj 10 b5), .val), ((proj 11 b5), .val), ((proj 12 b5), .val), ((proj 13 b5), .val), ((proj 14 b5), .val), ((proj 15 b5), .val), ((proj 16 b5), .val), ((proj 17 b5), .val), ((proj 18 b5), .val), ((proj 19 b5), .val)]), (8, some [(b8_0, .val), (b8_1, .val), (b8_2, .val)])], sg⟩
theorem eq_r17_K_name (R : Orc) (x0 : Nat) (x1 : DV) (x2 : DV) (x3 : DV) (sg : List SObj) : P_r17_K_name R x0 x1 x2 x3 sg =
  (og (isAggN 20 x1) <|
  ob (dLen x2) fun d1 =>
  ob (dBin .sub d1 (.int .i64 1)) fun d2 =>
  P_r17_K_name_2h R x0 x2 x3 d2 x1 (.int .i64 0) (.int .i64 0) (.list 3 []) sg) := evP_of [4] (by kernel_rfl)
theorem eq_r17_K_name_2h (R : Orc) (t0i : Nat) (t2 : DV) (t3 : DV) (t9 : DV) (b5 : DV) (b8_0 : DV) (b8_1 : DV) (b8_2 : DV) (sg : List SObj) : P_r17_K_name_2h R t0i t2 t3 t9 b5 b8_0 b8_1 b8_2 sg =
  (ob (dBin .geq t9 (.int .i64 0)) fun d1 =>
  ogd d1
   (ob (dIdx 5 t2 t9) fun d2 =>
   ob (dBin .neq (proj 0 d2) (proj 3 b5)) fun d3 =>
   oif d3
    (ob (dBin .sub t9 (.int .i64 1)) fun d4 =>
    P_r17_K_name_2h R t0i t2 t3 d4 b5 b8_0 b8_1 b8_2 sg)
    (P_r17_K_name_4 R t0i t2 t3 t9 b5 b8_0 b8_1 b8_2 sg))
   (P_r17_K_name_4 R t0i t2 t3 t9 b5 b8_0 b8_1 b8_2 sg)
   none) := headP_of [4] (by kernel_rfl)
theorem eq_r17_K_name_4 (R : Orc) (t0i : Nat) (t2 : DV) (t3 : DV) (t9 : DV) (b5 : DV) (b8_0 : DV) (b8_1 : DV) (b8_2 : DV) (sg : List SObj) : P_r17_K_name_4 R t0i t2 t3 t9 b5 b8_0 b8_1 b8_2 sg =
  (ob (dBin .lss t9 (.int .i64 0)) fun d1 =>
  oif d1
   (ob (R.r F_r17_K_wrong [(.undef, (.ptr t0i 0)), ((.int .i64 6), .val)] sg) fun q2 =>
   some ([(.agg [(.int .i64 0), (.int .i64 0), (.list 3 [])])], q2.2))
   (ob (dLen (proj 17 b5)) fun d3 =>
   ob (dIdx 5 t2 t9) fun d4 =>
   ob (dLen (proj 4 d4)) fun d5 =>
   ob (dBin .neq d3 d5) fun d6 =>
   oif d6
    (ob (R.r F_r17_K_wrong [(.undef, (.ptr t0i 0)), ((.int .i64 8), .val)] sg) fun q7 =>
    some ([(.agg [(.int .i64 0), (.int .i64 0), (.list 3 [])])], q7.2))
    (P_r17_K_name_11h R t0i t2 t3 t9 (.int .i64 0) b5 b8_0 b8_1 b8_2 sg))) := evP_of [4] (by kernel_rfl)
theorem eq_r17_K_name_11h (R : Orc) (t0i : Nat) (t2 : DV) (t3 : DV) (t9 : DV) (t10 : DV) (b5 : DV) (b8_0 : DV) (b8_1 : DV) (b8_2 : DV) (sg : List SObj) : P_r17_K_name_11h R t0i t2 t3 t9 t10 b5 b8_0 b8_1 b8_2 sg =
  (ob (dLen (proj 17 b5)) fun d1 =>
  ob (dBin .lss t10 d1) fun d2 =>
  oif d2
   (ob (dIdx 3 (proj 17 b5) t10) fun d3 =>
   ob (R.r F_r17_K_scoped [(.undef, (.ptr t0i 0)), ((.agg [(proj 0 d3), (proj 1 d3), (proj 2 d3)]), .val), (t3, .val)] sg) fun q4 =>
   ob (dBin .add t10 (.int .i64 1)) fun d5 =>
   P_r17_K_name_11h R t0i t2 t3 t9 d5 b5 b8_0 b8_1 b8_2 q4.2)
   (ob (dIdx 5 t2 t9) fun d6 =>
   ob (dIdx 5 t2 t9) fun d7 =>
   ob (R.p F_r16_Binds [(proj 4 d7), (proj 17 b5)]) fun d8 =>
   ob (R.p F_r08_Put [(.agg [(proj 1 d6), (proj 2 d6), (proj 3 d6)]), d8]) fun d9 =>
   og (isAggN 3 d9) <|
   some ([(.agg [(proj 0 d9), (proj 1 d9), (proj 2 d9)])], sg))) := headP_of [4] (by kernel_rfl)
theorem call_r17_K_name (x0 : Nat) (x1 : DV) (x2 : DV) (x3 : DV) (sg : List SObj) {q : List DV × List SObj} (h : P_r17_K_name (run cfg) x0 x1 x2 x3 sg = some q) : (run cfg).r F_r17_K_name [(.undef, (.ptr x0 0)), (x1, .val), (x2, .val), (x3, .val)] sg = some q :=
  run_raw (s := sig_r17_K_name) (fn := Tryz.f144) (c := code_r17_K_name) (by kernel_rfl) Tryz.func144 (by kernel_rfl) ((show _ = P_r17_K_name (run cfg) x0 x1 x2 x3 sg by kernel_rfl).trans h)

/-! ### r17_K_scoped -/
noncomputable def code_r17_K_scoped : Code := Tryz.f145.body.getD .skip
noncomputable def P_r17_K_scoped (R : Orc) (x0 : Nat) (x1 : DV) (x2 : DV) (sg : List SObj) : Option (List DV × List SObj) := evP cfg R fl_r17_K_scoped (retR cfg.P Tryz.f145 sig_r17_K_scoped) [] code_r17_K_scoped (initSt Tryz.f145 [(.undef, (.ptr x0 0)), (x1, .val), (x2, .val)] sg)
noncomputable def P_r17_K_scoped_3h (R : Orc) (t0i : Nat) (t2 : DV) (t6 : DV) (t7 : DV) (sg : List SObj) : Option (List DV × List SObj) := headP cfg R fl_r17_K_scoped (retR cfg.P Tryz.f145 sig_r17_K_scoped) [true, true, true, false] code_r17_K_scoped ⟨spread .undef 25 0 [(2, t2), (6, t6), (7, t7)], spread .val 25 0 [(0, (.ptr t0i 0))], spread none 25 0 [], sg⟩
theorem eq_r17_K_scoped (R : Orc) (x0 : Nat) (x1 : DV) (x2 : DV) (sg : List SObj) : P_r17_K_scoped R x0 x1 x2 sg =
  (og (isAggN 3 x1) <|
  ob (R.p F_r03_Vars [(.agg [(proj 0 x1), (proj 1 x1), (proj 2 x1)])]) fun d1 =>
  P_r17_K_scoped_3h R x0 x2 d1 (.int .i64 0) sg) := evP_of [] (by kernel_rfl)
theorem eq_r17_K_scoped_3h (R : Orc) (t0i : Nat) (t2 : DV) (t6 : DV) (t7 : DV) (sg : List SObj) : P_r17_K_scoped_3h R t0i t2 t6 t7 sg =
  (ob (dLen t6) fun d1 =>
  ob (dBin .lss t7 d1) fun d2 =>
  oif d2
   (ob (dIdx 1 t6 t7) fun d3 =>
   og (isLeaf d3) <|
   ob (R.p F_r03_In [t2, d3]) fun d4 =>
   ob (dUn .not d4) fun d5 =>
   oif d5
    (ob (R.r F_r17_K_wrong [(.undef, (.ptr t0i 0)), ((.int .i64 6), .val)] sg) fun q6 =>
    ob (dBin .add t7 (.int .i64 1)) fun d7 =>
    P_r17_K_scoped_3h R t0i t2 t6 d7 q6.2)
    (ob (dBin .add t7 (.int .i64 1)) fun d8 =>
    P_r17_K_scoped_3h R t0i t2 t6 d8 sg))
   (some ([], sg))) := headP_of [] (by kernel_rfl)
theorem call_r17_K_scoped (x0 : Nat) (x1 : DV) (x2 : DV) (sg : List SObj) {q : List DV × List SObj} (h : P_r17_K_scoped (run cfg) x0 x1 x2 sg = some q) : (run cfg).r F_r17_K_scoped [(.undef, (.ptr x0 0)), (x1, .val), (x2, .val)] sg = some q :=
  run_raw (s := sig_r17_K_scoped) (fn := Tryz.f145) (c := code_r17_K_scoped) (by kernel_rfl) Tryz.func145 (by kernel_rfl) ((show _ = P_r17_K_scoped (run cfg) x0 x1 x2 sg by kernel_rfl).trans h)

/-! ### r03_List -/
noncomputable def code_r03_List : Code := Tryz.f146.body.getD .skip
noncomputable def P_r03_List (R : Orc) (x0 : DV) : Option DV := evP cfg R fl_r03_List (retP cfg.P Tryz.f146) [] code_r03_List (initSt Tryz.f146 [(x0, .val)] [])
theorem eq_r03_List (R : Orc) (x0 : DV) : P_r03_List R x0 =
  (og (isAggN 3 x0) <|
  some (.agg [(.int .i64 8), (.int .i64 0), (.list 3 [(.agg [(proj 0 x0), (proj 1 x0), (proj 2 x0)])])])) := evP_of [] (by kernel_rfl)
theorem call_r03_List (x0 : DV) {d : DV} (h : P_r03_List (run cfg) x0 = some d) : (run cfg).p F_r03_List [x0] = some d :=
  run_pure (fn := Tryz.f146) (c := code_r03_List) (by kernel_rfl) Tryz.func146 (by kernel_rfl) ((show _ = P_r03_List (run cfg) x0 by kernel_rfl).trans h)

/-! ### r17_K_must -/
noncomputable def code_r17_K_must : Code := Tryz.f147.body.getD .skip
noncomputable def P_r17_K_must (R : Orc) (x0 : Nat) (x1 : DV) (sg : List SObj) : Option (List DV × List SObj) := evP cfg R fl_r17_K_must (retR cfg.P Tryz.f147 sig_r17_K_must) [] code_r17_K_must (initSt Tryz.f147 [(.undef, (.ptr x0 0)), (x1, .val)] sg)
theorem eq_r17_K_must (R : Orc) (x0 : Nat) (x1 : DV) (sg : List SObj) : P_r17_K_must R x0 x1 sg =
  (ob (dUn .not x1) fun d1 =>
  oif d1
   (ob (R.r F_r17_K_wrong [(.undef, (.ptr x0 0)), ((.int .i64 4), .val)] sg) fun q2 =>
   some ([], q2.2))
   (some ([], sg))) := evP_of [] (by kernel_rfl)
theorem call_r17_K_must (x0 : Nat) (x1 : DV) (sg : List SObj) {q : List DV × List SObj} (h : P_r17_K_must (run cfg) x0 x1 sg = some q) : (run cfg).r F_r17_K_must [(.undef, (.ptr x0 0)), (x1, .val)] sg = some q :=
  run_raw (s := sig_r17_K_must) (fn := Tryz.f147) (c := code_r17_K_must) (by kernel_rfl) Tryz.func147 (by kernel_rfl) ((show _ = P_r17_K_must (run cfg) x0 x1 sg by kernel_rfl).trans h)

/-! ### r17_plain -/
noncomputable def code_r17_plain : Code := Tryz.f148.body.getD .skip
noncomputable def P_r17_plain (R : Orc) (x0 : DV) (x1 : DV) (x2 : DV) : Option DV := evP cfg R fl_r17_plain (retP cfg.P Tryz.f148) [] code_r17_plain (initSt Tryz.f148 [(x0, .val), (x1, .val), (x2, .val)] [])
theorem eq_r17_plain (R : Orc) (x0 : DV) (x1 : DV) (x2 : DV) : P_r17_plain R x0 x1 x2 =
  (og (isAggN 3 x2) <|
  ob (dApp 5 (.list 5 []) x0) fun d1 =>
  og (isCell x1) <|
  ob (dApp 5 d1 (.list 5 [(.agg [x1, (proj 0 x2), (proj 1 x2), (proj 2 x2), (.list 1 [])])])) fun d2 =>
  some d2) := evP_of [] (by kernel_rfl)
theorem call_r17_plain (x0 : DV) (x1 : DV) (x2 : DV) {d : DV} (h : P_r17_plain (run cfg) x0 x1 x2 = some d) : (run cfg).p F_r17_plain [x0, x1, x2] = some d :=
  run_pure (fn := Tryz.f148) (c := code_r17_plain) (by kernel_rfl) Tryz.func148 (by kernel_rfl) ((show _ = P_r17_plain (run cfg) x0 x1 x2 by kernel_rfl).trans h)

/-! ### r17_K_wrong -/
noncomputable def code_r17_K_wrong : Code := Tryz.f149.body.getD .skip
noncomputable def P_r17_K_wrong (R : Orc) (x0 : Nat) (x1 : DV) (sg : List SObj) : Option (List DV × List SObj) := evP cfg R fl_r17_K_wrong (retR cfg.P Tryz.f149 sig_r17_K_wrong) [] code_r17_K_wrong (initSt Tryz.f149 [(.undef, (.ptr x0 0)), (x1, .val)] sg)
theorem eq_r17_K_wrong (R : Orc) (x0 : Nat) (x1 : DV) (sg : List SObj) : P_r17_K_wrong R x0 x1 sg =
  (ob (sgBox sg x0) fun c1 =>
  ob (cellDat c1 0) fun d2 =>
  ob (dBin .eql d2 (.int .i64 0)) fun d3 =>
  oif d3
   (ob (sgBox sg x0) fun c4 =>
   og (isCell x1) <|
   ob (c4[0]?) fun u5 =>
   some ([], (sg.set x0 (SObj.box (c4.set 0 (x1, .val))))))
   (some ([], sg))) := evP_of [] (by kernel_rfl)
theorem call_r17_K_wrong (x0 : Nat) (x1 : DV) (sg : List SObj) {q : List DV × List SObj} (h : P_r17_K_wrong (run cfg) x0 x1 sg = some q) : (run cfg).r F_r17_K_wrong [(.undef, (.ptr x0 0)), (x1, .val)] sg = some q :=
  run_raw (s := sig_r17_K_wrong) (fn := Tryz.f149) (c := code_r17_K_wrong) (by kernel_rfl) Tryz.func149 (by kernel_rfl) ((show _ = P_r17_K_wrong (run cfg) x0 x1 sg by kernel_rfl).trans h)

/-! ### r17_K_with -/
noncomputable def code_r17_K_with : Code := Tryz.f150.body.getD .skip
noncomputable def P_r17_K_with (R : Orc) (x0 : Nat) (x1 : DV) (x2 : DV) (sg : List SObj) : Option (List DV × List SObj) := evP cfg R fl_r17_K_with (retR cfg.P Tryz.f150 sig_r17_K_with) [] code_r17_K_with (initSt Tryz.f150 [(.undef, (.ptr x0 0)), (x1, .val), (x2, .val)] sg)
noncomputable def P_r17_K_with_3h (R : Orc) (t0i : Nat) (t2 : DV) (t7 : DV) (t8 : DV) (sg : List SObj) : Option (List DV × List SObj) := headP cfg R fl_r17_K_with (retR cfg.P Tryz.f150 sig_r17_K_with) [true, true, false, true, false] code_r17_K_with ⟨spread .undef 34 0 [(2, t2), (7, t7), (8, t8)], spread .val 34 0 [(0, (.ptr t0i 0)), (7, .own)], spread none 34 0 [], sg⟩
theorem eq_r17_K_with (R : Orc) (x0 : Nat) (x1 : DV) (x2 : DV) (sg : List SObj) : P_r17_K_with R x0 x1 x2 sg =
  (ob (dApp 1 (.list 1 []) x1) fun d1 =>
  P_r17_K_with_3h R x0 x2 d1 (.int .i64 0) sg) := evP_of [] (by kernel_rfl)
theorem eq_r17_K_with_3h (R : Orc) (t0i : Nat) (t2 : DV) (t7 : DV) (t8 : DV) (sg : List SObj) : P_r17_K_with_3h R t0i t2 t7 t8 sg =
  (ob (dLen t2) fun d1 =>
  ob (dBin .lss t8 d1) fun d2 =>
  oif d2
   (ob (dIdx 1 t2 t8) fun d3 =>
   og (isLeaf d3) <|
   ob (R.p F_r03_In [t7, d3]) fun d4 =>
   oif d4
    (ob (R.r F_r17_K_wrong [(.undef, (.ptr t0i 0)), ((.int .i64 6), .val)] sg) fun q5 =>
    ob (dIdx 1 t2 t8) fun d6 =>
    og (isLeaf d6) <|
    og (isCell d6) <|
    ob (dApp 1 t7 (.list 1 [d6])) fun d7 =>
    ob (dBin .add t8 (.int .i64 1)) fun d8 =>
    P_r17_K_with_3h R t0i t2 d7 d8 q5.2)
    (ob (dIdx 1 t2 t8) fun d9 =>
    og (isLeaf d9) <|
    og (isCell d9) <|
    ob (dApp 1 t7 (.list 1 [d9])) fun d10 =>
    ob (dBin .add t8 (.int .i64 1)) fun d11 =>
    P_r17_K_with_3h R t0i t2 d10 d11 sg))
   (some ([t7], sg))) := headP_of [] (by kernel_rfl)
theorem call_r17_K_with (x0 : Nat) (x1 : DV) (x2 : DV) (sg : List SObj) {q : List DV × List SObj} (h : P_r17_K_with (run cfg) x0 x1 x2 sg = some q) : (run cfg).r F_r17_K_with [(.undef, (.ptr x0 0)), (x1, .val), (x2, .val)] sg = some q :=
  run_raw (s := sig_r17_K_with) (fn := Tryz.f150) (c := code_r17_K_with) (by kernel_rfl) Tryz.func150 (by kernel_rfl) ((show _ = P_r17_K_with (run cfg) x0 x1 x2 sg by kernel_rfl).trans h)

/-! ### r17_K_rec -/
noncomputable def code_r17_K_rec : Code := Tryz.f151.body.getD .skip
noncomputable def P_r17_K_rec (R : Orc) (x0 : Nat) (x1 : DV) (x2 : DV) (x3 : DV) (sg : List SObj) : Option (List DV × List SObj) := evP cfg R fl_r17_K_rec (retR cfg.P Tryz.f151 sig_r17_K_rec) [] code_r17_K_rec (initSt Tryz.f151 [(.undef, (.ptr x0 0)), (x1, .val), (x2, .val), (x3, .val)] sg)
set_option maxRecDepth 100000 in
theorem eq_r17_K_rec (R : Orc) (x0 : Nat) (x1 : DV) (x2 : DV) (x3 : DV) (sg : List SObj) : P_r17_K_rec R x0 x1 x2 x3 sg =
  (og (isAggN 20 x1) <|
  ob (R.r F_r17_K_with [(.undef, (.ptr x0 0)), (x3, .val), ((proj 10 x1), .val)] sg) fun q1 =>
  ob (R.r F_r17_K_scoped [(.undef, (.ptr x0 0)), ((.agg [(proj 11 x1), (proj 12 x1), (proj 13 x1)]), .val), ((q1.1.getD 0 .undef), .val)] q1.2) fun q2 =>
  ob (R.r F_r17_K_scoped [(.undef, (.ptr x0 0)), ((.agg [(proj 14 x1), (proj 15 x1), (proj 16 x1)]), .val), ((q1.1.getD 0 .undef), .val)] q2.2) fun q3 =>
  ob (R.p F_r03_Two [(.int .i64 9), (.agg [(proj 11 x1), (proj 12 x1), (proj 13 x1)]), (.agg [(proj 14 x1), (proj 15 x1), (proj 16 x1)])]) fun d4 =>
  og (isAggN 3 d4) <|
  ob (dIdx 20 (proj 19 x1) (.int .i64 0)) fun d5 =>
  ob (R.p F_r17_plain [x2, (proj 3 x1), (.agg [(proj 0 d4), (proj 1 d4), (proj 2 d4)])]) fun d6 =>
  ob (R.p F_r17_plain [d6, (proj 4 x1), (.agg [(proj 11 x1), (proj 12 x1), (proj 13 x1)])]) fun d7 =>
  ob (R.r F_r17_K_typ [(.undef, (.ptr x0 0)), ((.agg [(proj 0 d5), (proj 1 d5), (proj 2 d5), (proj 3 d5), (proj 4 d5), (proj 5 d5), (proj 6 d5), (proj 7 d5), (proj 8 d5), (proj 9 d5), (proj 10 d5), (proj 11 d5), (proj 12 d5), (proj 13 d5), (proj 14 d5), (proj 15 d5), (proj 16 d5), (proj 17 d5), (proj 18 d5), (proj 19 d5)]), .val), (d7, .val), ((q1.1.getD 0 .undef), .val)] q3.2) fun q8 =>
  og (isAggN 3 (q8.1.getD 0 .undef)) <|
  ob (R.p F_r03_Same [(.agg [(proj 0 (q8.1.getD 0 .undef)), (proj 1 (q8.1.getD 0 .undef)), (proj 2 (q8.1.getD 0 .undef))]), (.agg [(proj 14 x1), (proj 15 x1), (proj 16 x1)])]) fun d9 =>
  ob (R.r F_r17_K_must [(.undef, (.ptr x0 0)), (d9, .val)] q8.2) fun q10 =>
  ob (dIdx 20 (proj 19 x1) (.int .i64 1)) fun d11 =>
  ob (dApp 5 (.list 5 []) x2) fun d12 =>
  og (isCell (proj 3 x1)) <|
  og (isCell (proj 10 x1)) <|
  ob (dApp 5 d12 (.list 5 [(.agg [(proj 3 x1), (proj 0 d4), (proj 1 d4), (proj 2 d4), (proj 10 x1)])])) fun d13 =>
  ob (R.r F_r17_K_typ [(.undef, (.ptr x0 0)), ((.agg [(proj 0 d11), (proj 1 d11), (proj 2 d11), (proj 3 d11), (proj 4 d11), (proj 5 d11), (proj 6 d11), (proj 7 d11), (proj 8 d11), (proj 9 d11), (proj 10 d11), (proj 11 d11), (proj 12 d11), (proj 13 d11), (proj 14 d11), (proj 15 d11), (proj 16 d11), (proj 17 d11), (proj 18 d11), (proj 19 d11)]), .val), (d13, .val), (x3, .val)] q10.2) fun q14 =>
  og (isAggN 3 (q14.1.getD 0 .undef)) <|
  some ([(.agg [(proj 0 (q14.1.getD 0 .undef)), (proj 1 (q14.1.getD 0 .undef)), (proj 2 (q14.1.getD 0 .undef))])], q14.2)) := evP_of [] (by kernel_rfl)
theorem call_r17_K_rec (x0 : Nat) (x1 : DV) (x2 : DV) (x3 : DV) (sg : List SObj) {q : List DV × List SObj} (h : P_r17_K_rec (run cfg) x0 x1 x2 x3 sg = some q) : (run cfg).r F_r17_K_rec [(.undef, (.ptr x0 0)), (x1, .val), (x2, .val), (x3, .val)] sg = some q :=
  run_raw (s := sig_r17_K_rec) (fn := Tryz.f151) (c := code_r17_K_rec) (by kernel_rfl) Tryz.func151 (by kernel_rfl) ((show _ = P_r17_K_rec (run cfg) x0 x1 x2 x3 sg by kernel_rfl).trans h)

/-! ### r17_K_match -/
noncomputable def code_r17_K_match : Code := Tryz.f152.body.getD .skip
noncomputable def P_r17_K_match (R : Orc) (x0 : Nat) (x1 : DV) (x2 : DV) (x3 : DV) (sg : List SObj) : Option (List DV × List SObj) := evP cfg R fl_r17_K_match (retR cfg.P Tryz.f152 sig_r17_K_match) [] code_r17_K_match (initSt Tryz.f152 [(.undef, (.ptr x0 0)), (x1, .val), (x2, .val), (x3, .val)] sg)
noncomputable def P_r17_K_match_4h (R : Orc) (t0i : Nat) (t2 : DV) (t3 : DV) (t11 : DV) (b5 : DV) (b8_0 : DV) (b8_1 : DV) (b8_2 : DV) (b9 : DV) (b10_0 : DV) (b10_1 : DV) (b10_2 : DV) (sg : List SObj) : Option (List DV × List SObj) := headP cfg R fl_r17_K_match (retR cfg.P Tryz.f152 sig_r17_K_match) [true, true, true, false, true, false] code_r17_K_match ⟨spread .undef 94 0 [(2, t2), (3, t3), (11, t11)], spread .val 94 0 [(0, (.ptr t0i 0)), (5, (.loc 5 0)), (8, (.loc 8 0)), (9, (.loc 9 0)), (10, (.loc 10 0))], spread none 94 0 [(5, some [((proj 0 b5), .val), ((proj 1 b5), .val), ((proj 2 b5), .val), ((proj 3 b5), .val), ((proj 4 b5), .val), ((proj 5 b5), .val), ((proj 6 b5), .val), ((proj 7 b5), .val), ((proj 8 b5), .val), ((proj 9 b5), .val), ((proj 10 b5), .val), ((proj 11 b5), .val), ((proj 12 b5), .val), ((proj 13 b5), .val), ((proj 14 b5), .val), ((proj 15 b5), .val), ((proj 16 b5), .val), ((proj 17 b5), .val), ((proj 18 b5), .val), ((proj 19 b5), .val)]), (8, some [(b8_0, .val), (b8_1, .val), (b8_2, .val)]), (9, some [((proj 0 b9), .val), ((proj 1 b9), .val), ((proj 2 b9), .val)]), (10, some [(b10_0, .val), (b10_1, .val), (b10_2, .val)])], sg⟩
noncomputable def P_r17_K_match_10h (R : Orc) (t0i : Nat) (t2 : DV) (t3 : DV) (t11 : DV) (t12 : DV) (t14 : DV) (t15 : DV) (b5 : DV) (b8_0 : DV) (b8_1 : DV) (b8_2 : DV) (b9 : DV) (b10_0 : DV) (b10_1 : DV) (b10_2 : DV) (sg : List SObj) : Option (List DV × List SObj) := headP cfg R fl_r17_K_match (retR cfg.P Tryz.f152 sig_r17_K_match) [true, true, true, false, true, false, false, true, false, false, true, true, true, false, true, false] code_r17_K_match ⟨spread .undef 94 0 [(2, t2), (3, t3), (11, t11), (12, t12), (14, t14), (15, t15)], spread .val 94 0 [(0, (.ptr t0i 0)), (5, (.loc 5 0)), (8, (.loc 8 0)), (9, (.loc 9 0)), (10, (.loc 10 0)), (14, .own)], spread none 94 0 [(5, some [((proj 0 b5), .val), ((proj 1 b5), .val), ((proj 2 b5), .val), ((proj 3 b5), .val), ((proj 4 b5), .val), ((proj 5 b5), .val), ((proj 6 b5), .val), ((proj 7 b5), .val), ((proj 8 b5), .val), ((proj 9 b5), .val), ((proj 10 b5), .val), ((proj 11 b5), .val), ((proj 12 b5), .val), ((proj 13 b5), .val), ((proj 14 b5), .val), ((proj 15 b5), .val), ((proj 16 b5), .val), ((proj 17 b5), .val), ((proj 18 b5), .val), ((proj 19 b5), .val)]), (8, some [(b8_0, .val), (b8_1, .val), (b8_2, .val)]), (9, some [((proj 0 b9), .val), ((proj 1 b9), .val), ((proj 2 b9), .val)]), (10, some [(b10_0, .val), (b10_1, .val), (b10_2, .val)])], sg⟩
theorem eq_r17_K_match (R : Orc) (x0 : Nat) (x1 : DV) (x2 : DV) (x3 : DV) (sg : List SObj) : P_r17_K_match R x0 x1 x2 x3 sg =
  (og (isAggN 20 x1) <|
  ob (dIdx 20 (proj 19 x1) (.int .i64 0)) fun d1 =>
  ob (R.r F_r17_K_typ [(.undef, (.ptr x0 0)), ((.agg [(proj 0 d1), (proj 1 d1), (proj 2 d1), (proj 3 d1), (proj 4 d1), (proj 5 d1), (proj 6 d1), (proj 7 d1), (proj 8 d1), (proj 9 d1), (proj 10 d1), (proj 11 d1), (proj 12 d1), (proj 13 d1), (proj 14 d1), (proj 15 d1), (proj 16 d1), (proj 17 d1), (proj 18 d1), (proj 19 d1)]), .val), (x2, .val), (x3, .val)] sg) fun q2 =>
  og (isAggN 3 (q2.1.getD 0 .undef)) <|
  P_r17_K_match_4h R x0 x2 x3 (.int .i64 0) x1 (.int .i64 0) (.int .i64 0) (.list 3 []) (q2.1.getD 0 .undef) (.int .i64 0) (.int .i64 0) (.list 3 []) q2.2) := evP_of [] (by kernel_rfl)
theorem eq_r17_K_match_4h (R : Orc) (t0i : Nat) (t2 : DV) (t3 : DV) (t11 : DV) (b5 : DV) (b8_0 : DV) (b8_1 : DV) (b8_2 : DV) (b9 : DV) (b10_0 : DV) (b10_1 : DV) (b10_2 : DV) (sg : List SObj) : P_r17_K_match_4h R t0i t2 t3 t11 b5 b8_0 b8_1 b8_2 b9 b10_0 b10_1 b10_2 sg =
  (ob (dLen (proj 18 b5)) fun d1 =>
  ob (dBin .lss t11 d1) fun d2 =>
  ogd d2
   (ob (sgBox sg t0i) fun c3 =>
   ob (cellDat c3 0) fun d4 =>
   ob (dBin .eql d4 (.int .i64 0)) fun d5 =>
   oif d5
    (ob (dIdx 7 (proj 18 b5) t11) fun d6 =>
    ob (R.r F_r16_Fits [((.agg [(proj 0 d6), (proj 1 d6), (proj 2 d6), (proj 3 d6), (proj 4 d6), (proj 5 d6), (proj 6 d6)]), .val), ((.agg [(proj 0 b9), (proj 1 b9), (proj 2 b9)]), .val), ((.list 4 []), .own)] sg) fun q7 =>
    ob (dExt 0 (.tup q7.1)) fun d8 =>
    ob (dExt 1 (.tup q7.1)) fun d9 =>
    ob (R.r F_r17_K_must [(.undef, (.ptr t0i 0)), (d9, .val)] q7.2) fun q10 =>
    ob (dApp 5 (.list 5 []) t2) fun d11 =>
    P_r17_K_match_10h R t0i t2 t3 t11 d8 d11 (.int .i64 0) b5 b8_0 b8_1 b8_2 b9 b10_0 b10_1 b10_2 q10.2)
    (some ([(.agg [b10_0, b10_1, b10_2])], sg)))
   (some ([(.agg [b10_0, b10_1, b10_2])], sg))
   none) := headP_of [] (by kernel_rfl)
theorem eq_r17_K_match_10h (R : Orc) (t0i : Nat) (t2 : DV) (t3 : DV) (t11 : DV) (t12 : DV) (t14 : DV) (t15 : DV) (b5 : DV) (b8_0 : DV) (b8_1 : DV) (b8_2 : DV) (b9 : DV) (b10_0 : DV) (b10_1 : DV) (b10_2 : DV) (sg : List SObj) : P_r17_K_match_10h R t0i t2 t3 t11 t12 t14 t15 b5 b8_0 b8_1 b8_2 b9 b10_0 b10_1 b10_2 sg =
  (ob (dLen t12) fun d1 =>
  ob (dBin .lss t15 d1) fun d2 =>
  oif d2
   (ob (dIdx 4 t12 t15) fun d3 =>
   ob (dIdx 4 t12 t15) fun d4 =>
   og (isCell (proj 0 d3)) <|
   ob (dApp 5 t14 (.list 5 [(.agg [(proj 0 d3), (proj 1 d4), (proj 2 d4), (proj 3 d4), (.list 1 [])])])) fun d5 =>
   ob (dBin .add t15 (.int .i64 1)) fun d6 =>
   P_r17_K_match_10h R t0i t2 t3 t11 t12 d5 d6 b5 b8_0 b8_1 b8_2 b9 b10_0 b10_1 b10_2 sg)
   (ob (dBin .add t11 (.int .i64 1)) fun d7 =>
   ob (dIdx 20 (proj 19 b5) d7) fun d8 =>
   ob (R.r F_r17_K_typ [(.undef, (.ptr t0i 0)), ((.agg [(proj 0 d8), (proj 1 d8), (proj 2 d8), (proj 3 d8), (proj 4 d8), (proj 5 d8), (proj 6 d8), (proj 7 d8), (proj 8 d8), (proj 9 d8), (proj 10 d8), (proj 11 d8), (proj 12 d8), (proj 13 d8), (proj 14 d8), (proj 15 d8), (proj 16 d8), (proj 17 d8), (proj 18 d8), (proj 19 d8)]), .val), (t14, .val), (t3, .val)] sg) fun q9 =>
   og (isAggN 3 (q9.1.getD 0 .undef)) <|
   ob (dBin .eql t11 (.int .i64 0)) fun d10 =>
   oif d10
    (ob (R.p F_r03_Same [(.agg [(proj 0 (q9.1.getD 0 .undef)), (proj 1 (q9.1.getD 0 .undef)), (proj 2 (q9.1.getD 0 .undef))]), (.agg [(proj 0 (q9.1.getD 0 .undef)), (proj 1 (q9.1.getD 0 .undef)), (proj 2 (q9.1.getD 0 .undef))])]) fun d11 =>
    ob (R.r F_r17_K_must [(.undef, (.ptr t0i 0)), (d11, .val)] q9.2) fun q12 =>
    ob (dBin .add t11 (.int .i64 1)) fun d13 =>
    P_r17_K_match_4h R t0i t2 t3 d13 b5 b8_0 b8_1 b8_2 b9 (proj 0 (q9.1.getD 0 .undef)) (proj 1 (q9.1.getD 0 .undef)) (proj 2 (q9.1.getD 0 .undef)) q12.2)
    (ob (R.p F_r03_Same [(.agg [(proj 0 (q9.1.getD 0 .undef)), (proj 1 (q9.1.getD 0 .undef)), (proj 2 (q9.1.getD 0 .undef))]), (.agg [b10_0, b10_1, b10_2])]) fun d14 =>
    ob (R.r F_r17_K_must [(.undef, (.ptr t0i 0)), (d14, .val)] q9.2) fun q15 =>
    ob (dBin .add t11 (.int .i64 1)) fun d16 =>
    P_r17_K_match_4h R t0i t2 t3 d16 b5 b8_0 b8_1 b8_2 b9 b10_0 b10_1 b10_2 q15.2))) := headP_of [] (by kernel_rfl)
theorem call_r17_K_match (x0 : Nat) (x1 : DV) (x2 : DV) (x3 : DV) (sg : List SObj) {q : List DV × List SObj} (h : P_r17_K_match (run cfg) x0 x1 x2 x3 sg = some q) : (run cfg).r F_r17_K_match [(.undef, (.ptr x0 0)), (x1, .val), (x2, .val), (x3, .val)] sg = some q :=
  run_raw (s := sig_r17_K_match) (fn := Tryz.f152) (c := code_r17_K_match) (by kernel_rfl) Tryz.func152 (by kernel_rfl) ((show _ = P_r17_K_match (run cfg) x0 x1 x2 x3 sg by kernel_rfl).trans h)

/-! ### r17_K_op -/
noncomputable def code_r17_K_op : Code := Tryz.f153.body.getD .skip
noncomputable def P_r17_K_op (R : Orc) (x0 : Nat) (x1 : DV) (x2 : DV) (x3 : DV) (sg : List SObj) : Option (List DV × List SObj) := evP cfg R fl_r17_K_op (retR cfg.P Tryz.f153 sig_r17_K_op) [] code_r17_K_op (initSt Tryz.f153 [(.undef, (.ptr x0 0)), (x1, .val), (x2, .val), (x3, .val)] sg)
noncomputable def P_r17_K_op_4 (R : Orc) (t0i : Nat) (t2 : DV) (t3 : DV) (b5 : DV) (b8_0 : DV) (b8_1 : DV) (b8_2 : DV) (b9 : DV) (sg : List SObj) : Option (List DV × List SObj) := evP cfg R fl_r17_K_op (retR cfg.P Tryz.f153 sig_r17_K_op) [true, true, true] code_r17_K_op ⟨spread .undef 48 0 [(2, t2), (3, t3)], spread .val 48 0 [(0, (.ptr t0i 0)), (5, (.loc 5 0)), (8, (.loc 8 0)), (9, (.loc 9 0))], spread none 48 0 [(5, some [((proj 0 b5), .val), ((proj 1 b5), .val), ((proj 2 b5), .val), ((proj 3 b5), .val), ((proj 4 b5), .val), ((proj 5 b5), .val), ((proj 6 b5), .val), ((proj 7 b5), .val), ((proj 8 b5), .val), ((proj 9 b5), .val), ((proj 10 b5), .val), ((proj 11 b5), .val), ((proj 12 b5), .val), ((proj 13 b5), .val), ((proj 14 b5), .val), ((proj 15 b5), .val), ((proj 16 b5), .val), ((proj 17 b5), .val), ((proj 18 b5), .val), ((proj 19 b5), .val)]), (8, some [(b8_0, .val), (b8_1, .val), (b8_2, .val)]), (9, some [((proj 0 b9), .val), ((proj 1 b9), .val), ((proj 2 b9), .val)])], sg⟩
theorem eq_r17_K_op (R : Orc) (x0 : Nat) (x1 : DV) (x2 : DV) (x3 : DV) (sg : List SObj) : P_r17_K_op R x0 x1 x2 x3 sg =
  (og (isAggN 20 x1) <|
  ob (R.p F_r03_Leaf [(.int .i64 1)]) fun d1 =>
  og (isAggN 3 d1) <|
  ob (dBin .eql (proj 7 x1) (.int .i64 7)) fun d2 =>
  oif d2
   (ob (R.p F_r03_Leaf [(.int .i64 3)]) fun d3 =>
   og (isAggN 3 d3) <|
   P_r17_K_op_4 R x0 x2 x3 x1 (.int .i64 0) (.int .i64 0) (.list 3 []) d3 sg)
   (P_r17_K_op_4 R x0 x2 x3 x1 (.int .i64 0) (.int .i64 0) (.list 3 []) d1 sg)) := evP_of [4] (by kernel_rfl)
theorem eq_r17_K_op_4 (R : Orc) (t0i : Nat) (t2 : DV) (t3 : DV) (b5 : DV) (b8_0 : DV) (b8_1 : DV) (b8_2 : DV) (b9 : DV) (sg : List SObj) : P_r17_K_op_4 R t0i t2 t3 b5 b8_0 b8_1 b8_2 b9 sg =
  (ob (dIdx 20 (proj 19 b5) (.int .i64 0)) fun d1 =>
  ob (R.r F_r17_K_typ [(.undef, (.ptr t0i 0)), ((.agg [(proj 0 d1), (proj 1 d1), (proj 2 d1), (proj 3 d1), (proj 4 d1), (proj 5 d1), (proj 6 d1), (proj 7 d1), (proj 8 d1), (proj 9 d1), (proj 10 d1), (proj 11 d1), (proj 12 d1), (proj 13 d1), (proj 14 d1), (proj 15 d1), (proj 16 d1), (proj 17 d1), (proj 18 d1), (proj 19 d1)]), .val), (t2, .val), (t3, .val)] sg) fun q2 =>
  og (isAggN 3 (q2.1.getD 0 .undef)) <|
  ob (dIdx 20 (proj 19 b5) (.int .i64 1)) fun d3 =>
  ob (R.r F_r17_K_typ [(.undef, (.ptr t0i 0)), ((.agg [(proj 0 d3), (proj 1 d3), (proj 2 d3), (proj 3 d3), (proj 4 d3), (proj 5 d3), (proj 6 d3), (proj 7 d3), (proj 8 d3), (proj 9 d3), (proj 10 d3), (proj 11 d3), (proj 12 d3), (proj 13 d3), (proj 14 d3), (proj 15 d3), (proj 16 d3), (proj 17 d3), (proj 18 d3), (proj 19 d3)]), .val), (t2, .val), (t3, .val)] q2.2) fun q4 =>
  og (isAggN 3 (q4.1.getD 0 .undef)) <|
  ob (R.p F_r03_Same [(.agg [(proj 0 (q2.1.getD 0 .undef)), (proj 1 (q2.1.getD 0 .undef)), (proj 2 (q2.1.getD 0 .undef))]), (.agg [(proj 0 b9), (proj 1 b9), (proj 2 b9)])]) fun d5 =>
  ogd d5
   (ob (R.p F_r03_Same [(.agg [(proj 0 (q4.1.getD 0 .undef)), (proj 1 (q4.1.getD 0 .undef)), (proj 2 (q4.1.getD 0 .undef))]), (.agg [(proj 0 b9), (proj 1 b9), (proj 2 b9)])]) fun d6 =>
   ob (R.r F_r17_K_must [(.undef, (.ptr t0i 0)), (d6, .val)] q4.2) fun q7 =>
   ob (dBin .geq (proj 7 b5) (.int .i64 5)) fun d8 =>
   oif d8
    (ob (R.p F_r03_Leaf [(.int .i64 2)]) fun d9 =>
    og (isAggN 3 d9) <|
    some ([(.agg [(proj 0 d9), (proj 1 d9), (proj 2 d9)])], q7.2))
    (some ([(.agg [(proj 0 b9), (proj 1 b9), (proj 2 b9)])], q7.2)))
   (ob (R.r F_r17_K_must [(.undef, (.ptr t0i 0)), ((.bool false), .val)] q4.2) fun q10 =>
   ob (dBin .geq (proj 7 b5) (.int .i64 5)) fun d11 =>
   oif d11
    (ob (R.p F_r03_Leaf [(.int .i64 2)]) fun d12 =>
    og (isAggN 3 d12) <|
    some ([(.agg [(proj 0 d12), (proj 1 d12), (proj 2 d12)])], q10.2))
    (some ([(.agg [(proj 0 b9), (proj 1 b9), (proj 2 b9)])], q10.2)))
   none) := evP_of [4] (by kernel_rfl)
theorem call_r17_K_op (x0 : Nat) (x1 : DV) (x2 : DV) (x3 : DV) (sg : List SObj) {q : List DV × List SObj} (h : P_r17_K_op (run cfg) x0 x1 x2 x3 sg = some q) : (run cfg).r F_r17_K_op [(.undef, (.ptr x0 0)), (x1, .val), (x2, .val), (x3, .val)] sg = some q :=
  run_raw (s := sig_r17_K_op) (fn := Tryz.f153) (c := code_r17_K_op) (by kernel_rfl) Tryz.func153 (by kernel_rfl) ((show _ = P_r17_K_op (run cfg) x0 x1 x2 x3 sg by kernel_rfl).trans h)

/-! ### r08_Agree -/
noncomputable def code_r08_Agree : Code := Tryz.f154.body.getD .skip
noncomputable def P_r08_Agree (R : Orc) (x0 : DV) (x1 : DV) : Option DV := evP cfg R fl_r08_Agree (retP cfg.P Tryz.f154) [] code_r08_Agree (initSt Tryz.f154 [(x0, .val), (x1, .val)] [])
noncomputable def P_r08_Agree_10h (R : Orc) (t5 : DV) (b2 : DV) (b3 : DV) : Option DV := headP cfg R fl_r08_Agree (retP cfg.P Tryz.f154) [true, true, false, true, false] code_r08_Agree ⟨spread .undef 46 0 [(5, t5)], spread .val 46 0 [(2, (.loc 2 0)), (3, (.loc 3 0))], spread none 46 0 [(2, some [((proj 0 b2), .val), ((proj 1 b2), .val), ((proj 2 b2), .val)]), (3, some [((proj 0 b3), .val), ((proj 1 b3), .val), ((proj 2 b3), .val)])], []⟩
theorem eq_r08_Agree (R : Orc) (x0 : DV) (x1 : DV) : P_r08_Agree R x0 x1 =
  (og (isAggN 3 x0) <|
  og (isAggN 3 x1) <|
  ob (dBin .eql (proj 0 x0) (.int .i64 5)) fun d1 =>
  oif d1
   (ob (R.p F_r03_Without [(.agg [(proj 0 x1), (proj 1 x1), (proj 2 x1)]), (.int .i64 6)]) fun d2 =>
   some d2)
   (ob (dBin .eql (proj 0 x1) (.int .i64 5)) fun d3 =>
   oif d3
    (ob (R.p F_r03_Without [(.agg [(proj 0 x0), (proj 1 x0), (proj 2 x0)]), (.int .i64 6)]) fun d4 =>
    some d4)
    (ob (R.p F_r08_leaf [(.agg [(proj 0 x0), (proj 1 x0), (proj 2 x0)]), (.agg [(proj 0 x1), (proj 1 x1), (proj 2 x1)])]) fun d5 =>
    oif d5
     (some (.bool true))
     (ob (R.p F_r08_like [(.agg [(proj 0 x0), (proj 1 x0), (proj 2 x0)]), (.agg [(proj 0 x1), (proj 1 x1), (proj 2 x1)])]) fun d6 =>
     ob (dUn .not d6) fun d7 =>
     oif d7
      (some (.bool false))
      (P_r08_Agree_10h R (.int .i64 0) x0 x1))))) := evP_of [] (by kernel_rfl)
theorem eq_r08_Agree_10h (R : Orc) (t5 : DV) (b2 : DV) (b3 : DV) : P_r08_Agree_10h R t5 b2 b3 =
  (ob (dLen (proj 2 b2)) fun d1 =>
  ob (dBin .lss t5 d1) fun d2 =>
  oif d2
   (ob (dIdx 3 (proj 2 b2) t5) fun d3 =>
   ob (dIdx 3 (proj 2 b3) t5) fun d4 =>
   ob (R.p F_r08_Agree [(.agg [(proj 0 d3), (proj 1 d3), (proj 2 d3)]), (.agg [(proj 0 d4), (proj 1 d4), (proj 2 d4)])]) fun d5 =>
   ob (dUn .not d5) fun d6 =>
   oif d6
    (some (.bool false))
    (ob (dBin .add t5 (.int .i64 1)) fun d7 =>
    P_r08_Agree_10h R d7 b2 b3))
   (some (.bool true))) := headP_of [] (by kernel_rfl)
theorem call_r08_Agree (x0 : DV) (x1 : DV) {d : DV} (h : P_r08_Agree (run cfg) x0 x1 = some d) : (run cfg).p F_r08_Agree [x0, x1] = some d :=
  run_pure (fn := Tryz.f154) (c := code_r08_Agree) (by kernel_rfl) Tryz.func154 (by kernel_rfl) ((show _ = P_r08_Agree (run cfg) x0 x1 by kernel_rfl).trans h)

/-! ### l03_count -/
noncomputable def code_l03_count : Code := Tryz.f155.body.getD .skip
noncomputable def P_l03_count (R : Orc) (x0 : DV) (x1 : DV) : Option DV := evP cfg R fl_l03_count (retP cfg.P Tryz.f155) [] code_l03_count (initSt Tryz.f155 [(x0, .val), (x1, .val)] [])
noncomputable def P_l03_count_3h (R : Orc) (t1 : DV) (t5 : DV) (b2 : DV) : Option DV := headP cfg R fl_l03_count (retP cfg.P Tryz.f155) [true, true, false, true, false] code_l03_count ⟨spread .undef 27 0 [(1, t1), (5, t5)], spread .val 27 0 [(2, (.loc 2 0))], spread none 27 0 [(2, some [((proj 0 b2), .val), ((proj 1 b2), .val), ((proj 2 b2), .val)])], []⟩
theorem eq_l03_count (R : Orc) (x0 : DV) (x1 : DV) : P_l03_count R x0 x1 =
  (og (isAggN 3 x0) <|
  ob (dBin .add x1 (.int .i64 1)) fun d1 =>
  P_l03_count_3h R d1 (.int .i64 0) x0) := evP_of [] (by kernel_rfl)
theorem eq_l03_count_3h (R : Orc) (t1 : DV) (t5 : DV) (b2 : DV) : P_l03_count_3h R t1 t5 b2 =
  (ob (dLen (proj 2 b2)) fun d1 =>
  ob (dBin .lss t5 d1) fun d2 =>
  ogd d2
   (ob (dBin .leq t1 (.int .i64 600)) fun d3 =>
   oif d3
    (ob (dIdx 3 (proj 2 b2) t5) fun d4 =>
    ob (R.p F_l03_count [(.agg [(proj 0 d4), (proj 1 d4), (proj 2 d4)]), t1]) fun d5 =>
    ob (dBin .add t5 (.int .i64 1)) fun d6 =>
    P_l03_count_3h R d5 d6 b2)
    (some t1))
   (some t1)
   none) := headP_of [] (by kernel_rfl)
theorem call_l03_count (x0 : DV) (x1 : DV) {d : DV} (h : P_l03_count (run cfg) x0 x1 = some d) : (run cfg).p F_l03_count [x0, x1] = some d :=
  run_pure (fn := Tryz.f155) (c := code_l03_count) (by kernel_rfl) Tryz.func155 (by kernel_rfl) ((show _ = P_l03_count (run cfg) x0 x1 by kernel_rfl).trans h)

/-! ### r03_vars -/
noncomputable def code_r03_vars : Code := Tryz.f156.body.getD .skip
noncomputable def P_r03_vars (R : Orc) (x0 : DV) (x1 : DV) (sg : List SObj) : Option (List DV × List SObj) := evP cfg R fl_r03_vars (retR cfg.P Tryz.f156 sig_r03_vars) [] code_r03_vars (initSt Tryz.f156 [(x0, .val), (x1, .own)] sg)
noncomputable def P_r03_vars_3 (R : Orc) (t1 : DV) (b2 : DV) (sg : List SObj) : Option (List DV × List SObj) := evP cfg R fl_r03_vars (retR cfg.P Tryz.f156 sig_r03_vars) [true, true] code_r03_vars ⟨spread .undef 36 0 [(1, t1)], spread .val 36 0 [(1, .own), (2, (.loc 2 0))], spread none 36 0 [(2, some [((proj 0 b2), .val), ((proj 1 b2), .val), ((proj 2 b2), .val)])], sg⟩
noncomputable def P_r03_vars_4h (R : Orc) (t1 : DV) (t5 : DV) (b2 : DV) (sg : List SObj) : Option (List DV × List SObj) := headP cfg R fl_r03_vars (retR cfg.P Tryz.f156 sig_r03_vars) [true, true, false, true, false] code_r03_vars ⟨spread .undef 36 0 [(1, t1), (5, t5)], spread .val 36 0 [(1, .own), (2, (.loc 2 0))], spread none 36 0 [(2, some [((proj 0 b2), .val), ((proj 1 b2), .val), ((proj 2 b2), .val)])], sg⟩
theorem eq_r03_vars (R : Orc) (x0 : DV) (x1 : DV) (sg : List SObj) : P_r03_vars R x0 x1 sg =
  (og (isAggN 3 x0) <|
  ob (dBin .eql (proj 0 x0) (.int .i64 6)) fun d1 =>
  ogd d1
   (ob (R.p F_r03_In [x1, (proj 1 x0)]) fun d2 =>
   ob (dUn .not d2) fun d3 =>
   oif d3
    (og (isCell (proj 1 x0)) <|
    ob (dApp 1 x1 (.list 1 [(proj 1 x0)])) fun d4 =>
    P_r03_vars_3 R d4 x0 sg)
    (P_r03_vars_3 R x1 x0 sg))
   (P_r03_vars_3 R x1 x0 sg)
   none) := evP_of [3] (by kernel_rfl)
theorem eq_r03_vars_3 (R : Orc) (t1 : DV) (b2 : DV) (sg : List SObj) : P_r03_vars_3 R t1 b2 sg =
  (P_r03_vars_4h R t1 (.int .i64 0) b2 sg) := evP_of [3] (by kernel_rfl)
theorem eq_r03_vars_4h (R : Orc) (t1 : DV) (t5 : DV) (b2 : DV) (sg : List SObj) : P_r03_vars_4h R t1 t5 b2 sg =
  (ob (dLen (proj 2 b2)) fun d1 =>
  ob (dBin .lss t5 d1) fun d2 =>
  oif d2
   (ob (dIdx 3 (proj 2 b2) t5) fun d3 =>
   ob (R.r F_r03_vars [((.agg [(proj 0 d3), (proj 1 d3), (proj 2 d3)]), .val), (t1, .own)] sg) fun q4 =>
   ob (dBin .add t5 (.int .i64 1)) fun d5 =>
   P_r03_vars_4h R (q4.1.getD 0 .undef) d5 b2 q4.2)
   (some ([t1], sg))) := headP_of [3] (by kernel_rfl)
theorem call_r03_vars (x0 : DV) (x1 : DV) (sg : List SObj) {q : List DV × List SObj} (h : P_r03_vars (run cfg) x0 x1 sg = some q) : (run cfg).r F_r03_vars [(x0, .val), (x1, .own)] sg = some q :=
  run_raw (s := sig_r03_vars) (fn := Tryz.f156) (c := code_r03_vars) (by kernel_rfl) Tryz.func156 (by kernel_rfl) ((show _ = P_r03_vars (run cfg) x0 x1 sg by kernel_rfl).trans h)

end Go.Su
