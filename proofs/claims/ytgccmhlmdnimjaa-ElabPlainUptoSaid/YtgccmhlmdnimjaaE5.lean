/-
  Parts of the proof, merged: G2, G3, G4, G5, T0.
-/
import Derived.Test.YtgccmhlmdnimjaaE4
set_option linter.unusedVariables false
set_option linter.unusedSimpArgs false
/-
  Equations of the program's functions: by program.
-/
namespace Go.Su
open Go.Proofs
set_option linter.unusedVariables false

/-! ### r17_settled -/
noncomputable def code_r17_settled : Code := Try.f70.body.getD .skip
noncomputable def P_r17_settled (R : Orc) (x0 : DV) (x1 : DV) : Option DV := evP cfg R fl_r17_settled (retP cfg.P Try.f70) [] code_r17_settled (initSt Try.f70 [(x0, .val), (x1, .val)] [])
noncomputable def P_r17_settled_3h (R : Orc) (t1 : DV) (t6 : DV) (b2 : DV) (b4_0 : DV) (b4_1 : DV) (b4_2 : DV) (b5_0 : DV) (b5_1 : DV) (b5_2 : DV) : Option DV := headP cfg R fl_r17_settled (retP cfg.P Try.f70) [true, true, false, true, false] code_r17_settled ⟨spread .undef 52 0 [(1, t1), (6, t6)], spread .val 52 0 [(2, (.loc 2 0)), (4, (.loc 4 0)), (5, (.loc 5 0))], spread none 52 0 [(2, some [((proj 0 b2), .val), ((proj 1 b2), .val), ((proj 2 b2), .val)]), (4, some [(b4_0, .val), (b4_1, .val), (b4_2, .val)]), (5, some [(b5_0, .own), (b5_1, .val), (b5_2, .own)])], []⟩
noncomputable def P_r17_settled_7h (R : Orc) (t1 : DV) (t7 : DV) (b2 : DV) (b4_0 : DV) (b4_1 : DV) (b4_2 : DV) (b5_0 : DV) (b5_1 : DV) (b5_2 : DV) : Option DV := headP cfg R fl_r17_settled (retP cfg.P Try.f70) [true, true, true, false, true, false] code_r17_settled ⟨spread .undef 52 0 [(1, t1), (7, t7)], spread .val 52 0 [(2, (.loc 2 0)), (4, (.loc 4 0)), (5, (.loc 5 0))], spread none 52 0 [(2, some [((proj 0 b2), .val), ((proj 1 b2), .val), ((proj 2 b2), .val)]), (4, some [(b4_0, .val), (b4_1, .val), (b4_2, .val)]), (5, some [(b5_0, .own), (b5_1, .val), (b5_2, .own)])], []⟩
theorem eq_r17_settled (R : Orc) (x0 : DV) (x1 : DV) : P_r17_settled R x0 x1 =
  (og (isAggN 3 x0) <|
  ob (dApp 1 (.list 1 []) (proj 1 x0)) fun d1 =>
  P_r17_settled_3h R x1 (.int .i64 0) x0 (.list 3 []) (.list 1 []) (.list 3 []) (.list 3 []) d1 (.list 3 [])) := evP_of [] (by kernel_rfl)
theorem eq_r17_settled_3h (R : Orc) (t1 : DV) (t6 : DV) (b2 : DV) (b4_0 : DV) (b4_1 : DV) (b4_2 : DV) (b5_0 : DV) (b5_1 : DV) (b5_2 : DV) : P_r17_settled_3h R t1 t6 b2 b4_0 b4_1 b4_2 b5_0 b5_1 b5_2 =
  (ob (dLen (proj 0 b2)) fun d1 =>
  ob (dBin .lss t6 d1) fun d2 =>
  oif d2
   (ob (dIdx 3 (proj 0 b2) t6) fun d3 =>
   ob (R.p F_r17_dynamic [(.agg [(proj 0 d3), (proj 1 d3), (proj 2 d3)]), t1]) fun d4 =>
   og (isAggN 3 d4) <|
   ob (dApp 3 b5_0 (.list 3 [d4])) fun d5 =>
   ob (dBin .add t6 (.int .i64 1)) fun d6 =>
   P_r17_settled_3h R t1 d6 b2 b4_0 b4_1 b4_2 d5 b5_1 b5_2)
   (P_r17_settled_7h R t1 (.int .i64 0) b2 b4_0 b4_1 b4_2 b5_0 b5_1 b5_2)) := headP_of [] (by kernel_rfl)
theorem eq_r17_settled_7h (R : Orc) (t1 : DV) (t7 : DV) (b2 : DV) (b4_0 : DV) (b4_1 : DV) (b4_2 : DV) (b5_0 : DV) (b5_1 : DV) (b5_2 : DV) : P_r17_settled_7h R t1 t7 b2 b4_0 b4_1 b4_2 b5_0 b5_1 b5_2 =
  (ob (dLen (proj 2 b2)) fun d1 =>
  ob (dBin .lss t7 d1) fun d2 =>
  oif d2
   (ob (dIdx 3 (proj 2 b2) t7) fun d3 =>
   ob (R.p F_r17_settled [(.agg [(proj 0 d3), (proj 1 d3), (proj 2 d3)]), t1]) fun d4 =>
   og (isAggN 3 d4) <|
   ob (dApp 3 b5_2 (.list 3 [d4])) fun d5 =>
   ob (dBin .add t7 (.int .i64 1)) fun d6 =>
   P_r17_settled_7h R t1 d6 b2 b4_0 b4_1 b4_2 b5_0 b5_1 d5)
   (some (.agg [b5_0, b5_1, b5_2]))) := headP_of [] (by kernel_rfl)
theorem fix_r17_settled (x0 : DV) (x1 : DV) : (run cfg).p F_r17_settled [x0, x1] = P_r17_settled (run cfg) x0 x1 :=
  (fix_pure (C := cfg) (f := F_r17_settled) (fn := Try.f70) (c := code_r17_settled) (by kernel_rfl) Try.func70 (by kernel_rfl)).trans (by kernel_rfl)
theorem call_r17_settled (x0 : DV) (x1 : DV) {d : DV} (h : P_r17_settled (run cfg) x0 x1 = some d) : (run cfg).p F_r17_settled [x0, x1] = some d := (fix_r17_settled x0 x1).trans h

/-! ### r17_kept -/
noncomputable def code_r17_kept : Code := Try.f71.body.getD .skip
noncomputable def P_r17_kept (R : Orc) (x0 : DV) (x1 : DV) (sg : List SObj) : Option (List DV × List SObj) := evP cfg R fl_r17_kept (retR cfg.P Try.f71 sig_r17_kept) [] code_r17_kept (initSt Try.f71 [(x0, .val), (x1, .own)] sg)
noncomputable def P_r17_kept_3h (R : Orc) (t1 : DV) (t5 : DV) (b2 : DV) (sg : List SObj) : Option (List DV × List SObj) := headP cfg R fl_r17_kept (retR cfg.P Try.f71 sig_r17_kept) [true, true, false, true, false] code_r17_kept ⟨spread .undef 25 0 [(1, t1), (5, t5)], spread .val 25 0 [(1, .own), (2, (.loc 2 0))], spread none 25 0 [(2, some [((proj 0 b2), .val), ((proj 1 b2), .val), ((proj 2 b2), .val)])], sg⟩
theorem eq_r17_kept (R : Orc) (x0 : DV) (x1 : DV) (sg : List SObj) : P_r17_kept R x0 x1 sg =
  (og (isAggN 3 x0) <|
  ob (dApp 1 x1 (proj 1 x0)) fun d1 =>
  P_r17_kept_3h R d1 (.int .i64 0) x0 sg) := evP_of [] (by kernel_rfl)
theorem eq_r17_kept_3h (R : Orc) (t1 : DV) (t5 : DV) (b2 : DV) (sg : List SObj) : P_r17_kept_3h R t1 t5 b2 sg =
  (ob (dLen (proj 2 b2)) fun d1 =>
  ob (dBin .lss t5 d1) fun d2 =>
  oif d2
   (ob (dIdx 3 (proj 2 b2) t5) fun d3 =>
   ob (R.r F_r17_kept [((.agg [(proj 0 d3), (proj 1 d3), (proj 2 d3)]), .val), (t1, .own)] sg) fun q4 =>
   ob (dBin .add t5 (.int .i64 1)) fun d5 =>
   P_r17_kept_3h R (q4.1.getD 0 .undef) d5 b2 q4.2)
   (some ([t1], sg))) := headP_of [] (by kernel_rfl)
theorem fix_r17_kept (x0 : DV) (x1 : DV) (sg : List SObj) : (run cfg).r F_r17_kept [(x0, .val), (x1, .own)] sg = P_r17_kept (run cfg) x0 x1 sg :=
  (fix_raw (C := cfg) (f := F_r17_kept) (s := sig_r17_kept) (fn := Try.f71) (c := code_r17_kept) (by kernel_rfl) Try.func71 (by kernel_rfl)).trans (by kernel_rfl)
theorem call_r17_kept (x0 : DV) (x1 : DV) (sg : List SObj) {q : List DV × List SObj} (h : P_r17_kept (run cfg) x0 x1 sg = some q) : (run cfg).r F_r17_kept [(x0, .val), (x1, .own)] sg = some q := (fix_r17_kept x0 x1 sg).trans h

/-! ### elab_Make -/
noncomputable def code_elab_Make : Code := Try.f72.body.getD .skip
noncomputable def P_elab_Make (R : Orc) (x0 : DV) (x1 : DV) : Option DV := evP cfg R fl_elab_Make (retP cfg.P Try.f72) [] code_elab_Make (initSt Try.f72 [(x0, .val), (x1, .val)] [])
theorem eq_elab_Make (R : Orc) (x0 : DV) (x1 : DV) : P_elab_Make R x0 x1 =
  (og (isAggN 16 x0) <|
  og (isAggN 3 x1) <|
  ob (R.p F_judge_Cast [(.agg [(proj 0 x0), (proj 1 x0), (proj 2 x0), (proj 3 x0), (proj 4 x0), (proj 5 x0), (proj 6 x0), (proj 7 x0), (proj 8 x0), (proj 9 x0), (proj 10 x0), (proj 11 x0), (proj 12 x0), (proj 13 x0), (proj 14 x0), (proj 15 x0)]), (.agg [(proj 0 x1), (proj 1 x1), (proj 2 x1)]), (.bool false)]) fun d1 =>
  ob (dExt 0 d1) fun d2 =>
  ob (dExt 1 d1) fun d3 =>
  ob (dExt 2 d1) fun d4 =>
  ob (dExt 3 d1) fun d5 =>
  og (isAggN 20 d2) <|
  og (isAggN 3 d4) <|
  some (.tup [(.agg [(proj 0 d2), (proj 1 d2), (proj 2 d2), (proj 3 d2), (proj 4 d2), (proj 5 d2), (proj 6 d2), (proj 7 d2), (proj 8 d2), (proj 9 d2), (proj 10 d2), (proj 11 d2), (proj 12 d2), (proj 13 d2), (proj 14 d2), (proj 15 d2), (proj 16 d2), (proj 17 d2), (proj 18 d2), (proj 19 d2)]), d3, (.agg [(proj 0 d4), (proj 1 d4), (proj 2 d4)]), d5])) := evP_of [] (by kernel_rfl)
theorem fix_elab_Make (x0 : DV) (x1 : DV) : (run cfg).p F_elab_Make [x0, x1] = P_elab_Make (run cfg) x0 x1 :=
  (fix_pure (C := cfg) (f := F_elab_Make) (fn := Try.f72) (c := code_elab_Make) (by kernel_rfl) Try.func72 (by kernel_rfl)).trans (by kernel_rfl)
theorem call_elab_Make (x0 : DV) (x1 : DV) {d : DV} (h : P_elab_Make (run cfg) x0 x1 = some d) : (run cfg).p F_elab_Make [x0, x1] = some d := (fix_elab_Make x0 x1).trans h

/-! ### tree_onePat -/
noncomputable def code_tree_onePat : Code := Try.f77.body.getD .skip
noncomputable def P_tree_onePat (R : Orc) (x0 : DV) : Option DV := evP cfg R fl_tree_onePat (retP cfg.P Try.f77) [] code_tree_onePat (initSt Try.f77 [(x0, .val)] [])
noncomputable def P_tree_onePat_24 (R : Orc) (t4 : DV) (b1 : DV) (b3_0 : DV) (b3_1 : DV) (b3_2 : DV) (b3_3 : DV) (b3_4 : DV) (b3_5 : DV) (b3_6 : DV) : Option DV := evP cfg R fl_tree_onePat (retP cfg.P Try.f77) [true, true, true] code_tree_onePat ⟨spread .undef 83 0 [(4, t4)], spread .val 83 0 [(1, (.loc 1 0)), (3, (.loc 3 0))], spread none 83 0 [(1, some [((proj 0 b1), .val), ((proj 1 b1), .val), ((proj 2 b1), .val), ((proj 3 b1), .val), ((proj 4 b1), .val), ((proj 5 b1), .val), ((proj 6 b1), .val)]), (3, some [(b3_0, .val), (b3_1, .val), (b3_2, .val), (b3_3, .val), (b3_4, .val), (b3_5, .val), (b3_6, .val)])], []⟩
set_option maxRecDepth 100000 in
theorem eq_tree_onePat (R : Orc) (x0 : DV) : P_tree_onePat R x0 =
  (og (isAggN 7 x0) <|
  og (isCell (proj 0 x0)) <|
  og (isCell (proj 6 x0)) <|
  ob (dBin .eql (proj 0 x0) (.int .i64 1)) fun d1 =>
  oif d1
   (P_tree_onePat_24 R (.int .i64 0) x0 (proj 0 x0) (proj 1 x0) (proj 2 x0) (.str ⟨#[]⟩) (.int .i64 0) (.str ⟨#[]⟩) (proj 6 x0))
   (ob (dBin .eql (proj 0 x0) (.int .i64 6)) fun d2 =>
   oif d2
    (P_tree_onePat_24 R (.int .i64 0) x0 (proj 0 x0) (proj 1 x0) (proj 2 x0) (.str ⟨#[]⟩) (.int .i64 0) (.str ⟨#[]⟩) (proj 6 x0))
    (ob (dBin .eql (proj 0 x0) (.int .i64 8)) fun d3 =>
    oif d3
     (P_tree_onePat_24 R (.int .i64 0) x0 (proj 0 x0) (proj 1 x0) (proj 2 x0) (.str ⟨#[]⟩) (.int .i64 0) (.str ⟨#[]⟩) (proj 6 x0))
     (ob (dBin .eql (proj 0 x0) (.int .i64 2)) fun d4 =>
     oif d4
      (og (isCell (proj 3 x0)) <|
      ob (R.p F_word_Name [(proj 3 x0)]) fun d5 =>
      ob (dUn .not d5) fun d6 =>
      oif d6
       (some (.bool false))
       (P_tree_onePat_24 R (.int .i64 0) x0 (proj 0 x0) (proj 1 x0) (proj 2 x0) (proj 3 x0) (.int .i64 0) (.str ⟨#[]⟩) (proj 6 x0)))
      (ob (dBin .eql (proj 0 x0) (.int .i64 3)) fun d7 =>
      oif d7
       (og (isCell (proj 4 x0)) <|
       P_tree_onePat_24 R (.int .i64 0) x0 (proj 0 x0) (proj 1 x0) (proj 2 x0) (.str ⟨#[]⟩) (proj 4 x0) (.str ⟨#[]⟩) (proj 6 x0))
       (ob (dBin .eql (proj 0 x0) (.int .i64 4)) fun d8 =>
       oif d8
        (og (isCell (proj 4 x0)) <|
        ob (dBin .neq (proj 4 x0) (.int .i64 0)) fun d9 =>
        ogd d9
         (ob (dBin .neq (proj 4 x0) (.int .i64 1)) fun d10 =>
         oif d10
          (some (.bool false))
          (P_tree_onePat_24 R (.int .i64 0) x0 (proj 0 x0) (proj 1 x0) (proj 2 x0) (.str ⟨#[]⟩) (proj 4 x0) (.str ⟨#[]⟩) (proj 6 x0)))
         (P_tree_onePat_24 R (.int .i64 0) x0 (proj 0 x0) (proj 1 x0) (proj 2 x0) (.str ⟨#[]⟩) (proj 4 x0) (.str ⟨#[]⟩) (proj 6 x0))
         none)
        (ob (dBin .eql (proj 0 x0) (.int .i64 5)) fun d11 =>
        oif d11
         (og (isCell (proj 5 x0)) <|
         ob (dLenS (proj 5 x0)) fun d12 =>
         ob (dBin .gtr d12 (.int .i64 200)) fun d13 =>
         oif d13
          (some (.bool false))
          (P_tree_onePat_24 R (.int .i64 0) x0 (proj 0 x0) (proj 1 x0) (proj 2 x0) (.str ⟨#[]⟩) (.int .i64 0) (proj 5 x0) (proj 6 x0)))
         (ob (dBin .eql (proj 0 x0) (.int .i64 7)) fun d14 =>
         oif d14
          (P_tree_onePat_24 R (.int .i64 2) x0 (proj 0 x0) (proj 1 x0) (proj 2 x0) (.str ⟨#[]⟩) (.int .i64 0) (.str ⟨#[]⟩) (proj 6 x0))
          (ob (dBin .eql (proj 0 x0) (.int .i64 9)) fun d15 =>
          oif d15
           (P_tree_onePat_24 R (.int .i64 2) x0 (proj 0 x0) (proj 1 x0) (proj 2 x0) (.str ⟨#[]⟩) (.int .i64 0) (.str ⟨#[]⟩) (proj 6 x0))
           (some (.bool false))))))))))) := evP_of [24] (by kernel_rfl)
set_option maxRecDepth 100000 in
theorem eq_tree_onePat_24 (R : Orc) (t4 : DV) (b1 : DV) (b3_0 : DV) (b3_1 : DV) (b3_2 : DV) (b3_3 : DV) (b3_4 : DV) (b3_5 : DV) (b3_6 : DV) : P_tree_onePat_24 R t4 b1 b3_0 b3_1 b3_2 b3_3 b3_4 b3_5 b3_6 =
  (ob (dLen (proj 6 b1)) fun d1 =>
  ob (dBin .eql d1 t4) fun d2 =>
  ogd d2
   (ob (dBin .eql b3_3 (proj 3 b1)) fun d3 =>
   ogd d3
    (ob (dBin .eql b3_4 (proj 4 b1)) fun d4 =>
    ogd d4
     (ob (dBin .eql b3_5 (proj 5 b1)) fun d5 =>
     some d5)
     (some (.bool false))
     none)
    (some (.bool false))
    none)
   (some (.bool false))
   none) := evP_of [24] (by kernel_rfl)
theorem fix_tree_onePat (x0 : DV) : (run cfg).p F_tree_onePat [x0] = P_tree_onePat (run cfg) x0 :=
  (fix_pure (C := cfg) (f := F_tree_onePat) (fn := Try.f77) (c := code_tree_onePat) (by kernel_rfl) Try.func77 (by kernel_rfl)).trans (by kernel_rfl)
theorem call_tree_onePat (x0 : DV) {d : DV} (h : P_tree_onePat (run cfg) x0 = some d) : (run cfg).p F_tree_onePat [x0] = some d := (fix_tree_onePat x0).trans h

/-! ### tree_one -/
noncomputable def code_tree_one : Code := Try.f86.body.getD .skip
noncomputable def P_tree_one (R : Orc) (x0 : DV) : Option DV := evP cfg R fl_tree_one (retP cfg.P Try.f86) [] code_tree_one (initSt Try.f86 [(x0, .val)] [])
noncomputable def P_tree_one_4 (R : Orc) (b1 : DV) (b3 : DV) : Option DV := evP cfg R fl_tree_one (retP cfg.P Try.f86) [true, true, false, false, true, true] code_tree_one ⟨spread .undef 186 0 [], spread .val 186 0 [(1, (.loc 1 0)), (3, (.loc 3 0))], spread none 186 0 [(1, some [((proj 0 b1), .val), ((proj 1 b1), .val), ((proj 2 b1), .val), ((proj 3 b1), .val), ((proj 4 b1), .val), ((proj 5 b1), .val), ((proj 6 b1), .val), ((proj 7 b1), .val), ((proj 8 b1), .val), ((proj 9 b1), .val), ((proj 10 b1), .val), ((proj 11 b1), .val), ((proj 12 b1), .val), ((proj 13 b1), .val), ((proj 14 b1), .val), ((proj 15 b1), .val)]), (3, some [((proj 0 b3), .val), ((proj 1 b3), .val), ((proj 2 b3), .val), ((proj 3 b3), .val), ((proj 4 b3), .val), ((proj 5 b3), .val), ((proj 6 b3), .val), ((proj 7 b3), .val), ((proj 8 b3), .val)])], []⟩
noncomputable def P_tree_one_6 (R : Orc) (b1 : DV) (b3 : DV) : Option DV := evP cfg R fl_tree_one (retP cfg.P Try.f86) [true, true, false, false, true, true, true, true] code_tree_one ⟨spread .undef 186 0 [], spread .val 186 0 [(1, (.loc 1 0)), (3, (.loc 3 0))], spread none 186 0 [(1, some [((proj 0 b1), .val), ((proj 1 b1), .val), ((proj 2 b1), .val), ((proj 3 b1), .val), ((proj 4 b1), .val), ((proj 5 b1), .val), ((proj 6 b1), .val), ((proj 7 b1), .val), ((proj 8 b1), .val), ((proj 9 b1), .val), ((proj 10 b1), .val), ((proj 11 b1), .val), ((proj 12 b1), .val), ((proj 13 b1), .val), ((proj 14 b1), .val), ((proj 15 b1), .val)]), (3, some [((proj 0 b3), .val), ((proj 1 b3), .val), ((proj 2 b3), .val), ((proj 3 b3), .val), ((proj 4 b3), .val), ((proj 5 b3), .val), ((proj 6 b3), .val), ((proj 7 b3), .val), ((proj 8 b3), .val)])], []⟩
noncomputable def P_tree_one_8 (R : Orc) (b1 : DV) (b3 : DV) : Option DV := evP cfg R fl_tree_one (retP cfg.P Try.f86) [true, true, false, false, true, true, true, true, true, true] code_tree_one ⟨spread .undef 186 0 [], spread .val 186 0 [(1, (.loc 1 0)), (3, (.loc 3 0))], spread none 186 0 [(1, some [((proj 0 b1), .val), ((proj 1 b1), .val), ((proj 2 b1), .val), ((proj 3 b1), .val), ((proj 4 b1), .val), ((proj 5 b1), .val), ((proj 6 b1), .val), ((proj 7 b1), .val), ((proj 8 b1), .val), ((proj 9 b1), .val), ((proj 10 b1), .val), ((proj 11 b1), .val), ((proj 12 b1), .val), ((proj 13 b1), .val), ((proj 14 b1), .val), ((proj 15 b1), .val)]), (3, some [((proj 0 b3), .val), ((proj 1 b3), .val), ((proj 2 b3), .val), ((proj 3 b3), .val), ((proj 4 b3), .val), ((proj 5 b3), .val), ((proj 6 b3), .val), ((proj 7 b3), .val), ((proj 8 b3), .val)])], []⟩
noncomputable def P_tree_one_10 (R : Orc) (b1 : DV) (b3 : DV) : Option DV := evP cfg R fl_tree_one (retP cfg.P Try.f86) [true, true, false, false, true, true, true, true, true, true, true, true] code_tree_one ⟨spread .undef 186 0 [], spread .val 186 0 [(1, (.loc 1 0)), (3, (.loc 3 0))], spread none 186 0 [(1, some [((proj 0 b1), .val), ((proj 1 b1), .val), ((proj 2 b1), .val), ((proj 3 b1), .val), ((proj 4 b1), .val), ((proj 5 b1), .val), ((proj 6 b1), .val), ((proj 7 b1), .val), ((proj 8 b1), .val), ((proj 9 b1), .val), ((proj 10 b1), .val), ((proj 11 b1), .val), ((proj 12 b1), .val), ((proj 13 b1), .val), ((proj 14 b1), .val), ((proj 15 b1), .val)]), (3, some [((proj 0 b3), .val), ((proj 1 b3), .val), ((proj 2 b3), .val), ((proj 3 b3), .val), ((proj 4 b3), .val), ((proj 5 b3), .val), ((proj 6 b3), .val), ((proj 7 b3), .val), ((proj 8 b3), .val)])], []⟩
noncomputable def P_tree_one_12 (R : Orc) (b1 : DV) (b3 : DV) : Option DV := evP cfg R fl_tree_one (retP cfg.P Try.f86) [true, true, false, false, true, true, true, true, true, true, true, true, true, true] code_tree_one ⟨spread .undef 186 0 [], spread .val 186 0 [(1, (.loc 1 0)), (3, (.loc 3 0))], spread none 186 0 [(1, some [((proj 0 b1), .val), ((proj 1 b1), .val), ((proj 2 b1), .val), ((proj 3 b1), .val), ((proj 4 b1), .val), ((proj 5 b1), .val), ((proj 6 b1), .val), ((proj 7 b1), .val), ((proj 8 b1), .val), ((proj 9 b1), .val), ((proj 10 b1), .val), ((proj 11 b1), .val), ((proj 12 b1), .val), ((proj 13 b1), .val), ((proj 14 b1), .val), ((proj 15 b1), .val)]), (3, some [((proj 0 b3), .val), ((proj 1 b3), .val), ((proj 2 b3), .val), ((proj 3 b3), .val), ((proj 4 b3), .val), ((proj 5 b3), .val), ((proj 6 b3), .val), ((proj 7 b3), .val), ((proj 8 b3), .val)])], []⟩
noncomputable def P_tree_one_14 (R : Orc) (b1 : DV) (b3 : DV) : Option DV := evP cfg R fl_tree_one (retP cfg.P Try.f86) [true, true, false, false, true, true, true, true, true, true, true, true, true, true, true, true] code_tree_one ⟨spread .undef 186 0 [], spread .val 186 0 [(1, (.loc 1 0)), (3, (.loc 3 0))], spread none 186 0 [(1, some [((proj 0 b1), .val), ((proj 1 b1), .val), ((proj 2 b1), .val), ((proj 3 b1), .val), ((proj 4 b1), .val), ((proj 5 b1), .val), ((proj 6 b1), .val), ((proj 7 b1), .val), ((proj 8 b1), .val), ((proj 9 b1), .val), ((proj 10 b1), .val), ((proj 11 b1), .val), ((proj 12 b1), .val), ((proj 13 b1), .val), ((proj 14 b1), .val), ((proj 15 b1), .val)]), (3, some [((proj 0 b3), .val), ((proj 1 b3), .val), ((proj 2 b3), .val), ((proj 3 b3), .val), ((proj 4 b3), .val), ((proj 5 b3), .val), ((proj 6 b3), .val), ((proj 7 b3), .val), ((proj 8 b3), .val)])], []⟩
noncomputable def P_tree_one_16 (R : Orc) (b1 : DV) (b3 : DV) : Option DV := evP cfg R fl_tree_one (retP cfg.P Try.f86) [true, true, false, false, true, true, true, true, true, true, true, true, true, true, true, true, true, true] code_tree_one ⟨spread .undef 186 0 [], spread .val 186 0 [(1, (.loc 1 0)), (3, (.loc 3 0))], spread none 186 0 [(1, some [((proj 0 b1), .val), ((proj 1 b1), .val), ((proj 2 b1), .val), ((proj 3 b1), .val), ((proj 4 b1), .val), ((proj 5 b1), .val), ((proj 6 b1), .val), ((proj 7 b1), .val), ((proj 8 b1), .val), ((proj 9 b1), .val), ((proj 10 b1), .val), ((proj 11 b1), .val), ((proj 12 b1), .val), ((proj 13 b1), .val), ((proj 14 b1), .val), ((proj 15 b1), .val)]), (3, some [((proj 0 b3), .val), ((proj 1 b3), .val), ((proj 2 b3), .val), ((proj 3 b3), .val), ((proj 4 b3), .val), ((proj 5 b3), .val), ((proj 6 b3), .val), ((proj 7 b3), .val), ((proj 8 b3), .val)])], []⟩
noncomputable def P_tree_one_18 (R : Orc) (b1 : DV) : Option DV := evP cfg R fl_tree_one (retP cfg.P Try.f86) [true, true, true] code_tree_one ⟨spread .undef 186 0 [], spread .val 186 0 [(1, (.loc 1 0))], spread none 186 0 [(1, some [((proj 0 b1), .val), ((proj 1 b1), .val), ((proj 2 b1), .val), ((proj 3 b1), .val), ((proj 4 b1), .val), ((proj 5 b1), .val), ((proj 6 b1), .val), ((proj 7 b1), .val), ((proj 8 b1), .val), ((proj 9 b1), .val), ((proj 10 b1), .val), ((proj 11 b1), .val), ((proj 12 b1), .val), ((proj 13 b1), .val), ((proj 14 b1), .val), ((proj 15 b1), .val)])], []⟩
noncomputable def P_tree_one_19h (R : Orc) (t176 : DV) (t177 : DV) (t178 : DV) : Option DV := headP cfg R fl_tree_one (retP cfg.P Try.f86) [true, true, true, false, true, false] code_tree_one ⟨spread .undef 186 0 [(176, t176), (177, t177), (178, t178)], spread .val 186 0 [], spread none 186 0 [], []⟩
set_option maxRecDepth 100000 in
theorem eq_tree_one (R : Orc) (x0 : DV) : P_tree_one R x0 =
  (og (isAggN 16 x0) <|
  ob (R.p F_tree_shapeOf [(.agg [(proj 0 x0), (proj 1 x0), (proj 2 x0), (proj 3 x0), (proj 4 x0), (proj 5 x0), (proj 6 x0), (proj 7 x0), (proj 8 x0), (proj 9 x0), (proj 10 x0), (proj 11 x0), (proj 12 x0), (proj 13 x0), (proj 14 x0), (proj 15 x0)])]) fun d1 =>
  ob (dExt 0 d1) fun d2 =>
  ob (dExt 1 d1) fun d3 =>
  og (isAggN 9 d2) <|
  ob (dUn .not d3) fun d4 =>
  ogd d4
   (some (.bool false))
   (ob (dLen (proj 15 x0)) fun d5 =>
   ob (dBin .neq d5 (proj 8 d2)) fun d6 =>
   ogd d6
    (some (.bool false))
    (ob (dBin .neq (proj 0 x0) (.int .i64 14)) fun d7 =>
    ogd d7
     (ob (dLen (proj 14 x0)) fun d8 =>
     ob (dBin .gtr d8 (.int .i64 0)) fun d9 =>
     oif d9
      (some (.bool false))
      (P_tree_one_4 R x0 d2))
     (P_tree_one_4 R x0 d2)
     none)
    none)
   none) := evP_of [4, 6, 8, 10, 12, 14, 16, 18] (by kernel_rfl)
set_option maxRecDepth 100000 in
theorem eq_tree_one_4 (R : Orc) (b1 : DV) (b3 : DV) : P_tree_one_4 R b1 b3 =
  (ogd (proj 0 b3)
   (ob (R.p F_word_Name [(proj 3 b1)]) fun d1 =>
   ob (dUn .not d1) fun d2 =>
   ogd d2
    (some (.bool false))
    (ob (dUn .not (proj 0 b3)) fun d3 =>
    ogd d3
     (ob (dBin .neq (proj 3 b1) (.str ⟨#[]⟩)) fun d4 =>
     oif d4
      (some (.bool false))
      (P_tree_one_6 R b1 b3))
     (P_tree_one_6 R b1 b3)
     none)
    none)
   (ob (dUn .not (proj 0 b3)) fun d5 =>
   ogd d5
    (ob (dBin .neq (proj 3 b1) (.str ⟨#[]⟩)) fun d6 =>
    oif d6
     (some (.bool false))
     (P_tree_one_6 R b1 b3))
    (P_tree_one_6 R b1 b3)
    none)
   none) := evP_of [4, 6, 8, 10, 12, 14, 16, 18] (by kernel_rfl)
set_option maxRecDepth 100000 in
theorem eq_tree_one_6 (R : Orc) (b1 : DV) (b3 : DV) : P_tree_one_6 R b1 b3 =
  (ogd (proj 1 b3)
   (ob (R.p F_word_Name [(proj 4 b1)]) fun d1 =>
   ob (dUn .not d1) fun d2 =>
   ogd d2
    (some (.bool false))
    (ob (dUn .not (proj 1 b3)) fun d3 =>
    ogd d3
     (ob (dBin .neq (proj 4 b1) (.str ⟨#[]⟩)) fun d4 =>
     oif d4
      (some (.bool false))
      (P_tree_one_8 R b1 b3))
     (P_tree_one_8 R b1 b3)
     none)
    none)
   (ob (dUn .not (proj 1 b3)) fun d5 =>
   ogd d5
    (ob (dBin .neq (proj 4 b1) (.str ⟨#[]⟩)) fun d6 =>
    oif d6
     (some (.bool false))
     (P_tree_one_8 R b1 b3))
    (P_tree_one_8 R b1 b3)
    none)
   none) := evP_of [4, 6, 8, 10, 12, 14, 16, 18] (by kernel_rfl)
set_option maxRecDepth 100000 in
theorem eq_tree_one_8 (R : Orc) (b1 : DV) (b3 : DV) : P_tree_one_8 R b1 b3 =
  (ob (dUn .not (proj 2 b3)) fun d1 =>
  ogd d1
   (ob (dBin .neq (proj 5 b1) (.int .i64 0)) fun d2 =>
   ogd d2
    (some (.bool false))
    (ob (dBin .eql (proj 0 b1) (.int .i64 3)) fun d3 =>
    ogd d3
     (ob (dBin .neq (proj 5 b1) (.int .i64 0)) fun d4 =>
     ogd d4
      (ob (dBin .neq (proj 5 b1) (.int .i64 1)) fun d5 =>
      oif d5
       (some (.bool false))
       (P_tree_one_10 R b1 b3))
      (P_tree_one_10 R b1 b3)
      none)
     (P_tree_one_10 R b1 b3)
     none)
    none)
   (ob (dBin .eql (proj 0 b1) (.int .i64 3)) fun d6 =>
   ogd d6
    (ob (dBin .neq (proj 5 b1) (.int .i64 0)) fun d7 =>
    ogd d7
     (ob (dBin .neq (proj 5 b1) (.int .i64 1)) fun d8 =>
     oif d8
      (some (.bool false))
      (P_tree_one_10 R b1 b3))
     (P_tree_one_10 R b1 b3)
     none)
    (P_tree_one_10 R b1 b3)
    none)
   none) := evP_of [4, 6, 8, 10, 12, 14, 16, 18] (by kernel_rfl)
theorem eq_tree_one_10 (R : Orc) (b1 : DV) (b3 : DV) : P_tree_one_10 R b1 b3 =
  (ob (dUn .not (proj 3 b3)) fun d1 =>
  ogd d1
   (ob (dBin .neq (proj 6 b1) (.str ⟨#[]⟩)) fun d2 =>
   ogd d2
    (some (.bool false))
    (ob (dLenS (proj 6 b1)) fun d3 =>
    ob (dBin .gtr d3 (.int .i64 200)) fun d4 =>
    oif d4
     (some (.bool false))
     (P_tree_one_12 R b1 b3))
    none)
   (ob (dLenS (proj 6 b1)) fun d5 =>
   ob (dBin .gtr d5 (.int .i64 200)) fun d6 =>
   oif d6
    (some (.bool false))
    (P_tree_one_12 R b1 b3))
   none) := evP_of [4, 6, 8, 10, 12, 14, 16, 18] (by kernel_rfl)
set_option maxRecDepth 100000 in
theorem eq_tree_one_12 (R : Orc) (b1 : DV) (b3 : DV) : P_tree_one_12 R b1 b3 =
  (ogd (proj 4 b3)
   (ob (dBin .lss (proj 7 b1) (.int .i64 1)) fun d1 =>
   ogd d1
    (some (.bool false))
    (ob (dBin .gtr (proj 7 b1) (.int .i64 7)) fun d2 =>
    ogd d2
     (some (.bool false))
     (ob (dUn .not (proj 4 b3)) fun d3 =>
     ogd d3
      (ob (dBin .neq (proj 7 b1) (.int .i64 0)) fun d4 =>
      oif d4
       (some (.bool false))
       (P_tree_one_14 R b1 b3))
      (P_tree_one_14 R b1 b3)
      none)
     none)
    none)
   (ob (dUn .not (proj 4 b3)) fun d5 =>
   ogd d5
    (ob (dBin .neq (proj 7 b1) (.int .i64 0)) fun d6 =>
    oif d6
     (some (.bool false))
     (P_tree_one_14 R b1 b3))
    (P_tree_one_14 R b1 b3)
    none)
   none) := evP_of [4, 6, 8, 10, 12, 14, 16, 18] (by kernel_rfl)
set_option maxRecDepth 100000 in
theorem eq_tree_one_14 (R : Orc) (b1 : DV) (b3 : DV) : P_tree_one_14 R b1 b3 =
  (ob (R.p F_tree_none [(.agg [(proj 8 b1), (proj 9 b1), (proj 10 b1)])]) fun d1 =>
  ob (dUn .not d1) fun d2 =>
  ogd d2
   (ob (dUn .not (proj 5 b3)) fun d3 =>
   ogd d3
    (some (.bool false))
    (ob (R.p F_tree_closed [(.agg [(proj 8 b1), (proj 9 b1), (proj 10 b1)])]) fun d4 =>
    ob (dUn .not d4) fun d5 =>
    ogd d5
     (some (.bool false))
     (ogd (proj 7 b3)
      (ob (R.p F_tree_none [(.agg [(proj 8 b1), (proj 9 b1), (proj 10 b1)])]) fun d6 =>
      oif d6
       (some (.bool false))
       (P_tree_one_16 R b1 b3))
      (P_tree_one_16 R b1 b3)
      none)
     none)
    none)
   (ogd (proj 7 b3)
    (ob (R.p F_tree_none [(.agg [(proj 8 b1), (proj 9 b1), (proj 10 b1)])]) fun d7 =>
    oif d7
     (some (.bool false))
     (P_tree_one_16 R b1 b3))
    (P_tree_one_16 R b1 b3)
    none)
   none) := evP_of [4, 6, 8, 10, 12, 14, 16, 18] (by kernel_rfl)
theorem eq_tree_one_16 (R : Orc) (b1 : DV) (b3 : DV) : P_tree_one_16 R b1 b3 =
  (ob (R.p F_tree_none [(.agg [(proj 11 b1), (proj 12 b1), (proj 13 b1)])]) fun d1 =>
  ob (dUn .not d1) fun d2 =>
  ogd d2
   (ob (dUn .not (proj 6 b3)) fun d3 =>
   ogd d3
    (some (.bool false))
    (ob (R.p F_tree_closed [(.agg [(proj 11 b1), (proj 12 b1), (proj 13 b1)])]) fun d4 =>
    ob (dUn .not d4) fun d5 =>
    oif d5
     (some (.bool false))
     (P_tree_one_18 R b1))
    none)
   (P_tree_one_18 R b1)
   none) := evP_of [4, 6, 8, 10, 12, 14, 16, 18] (by kernel_rfl)
theorem eq_tree_one_18 (R : Orc) (b1 : DV) : P_tree_one_18 R b1 =
  (ob (dLen (proj 14 b1)) fun d1 =>
  P_tree_one_19h R (proj 14 b1) d1 (.int .i64 0)) := evP_of [4, 6, 8, 10, 12, 14, 16, 18] (by kernel_rfl)
theorem eq_tree_one_19h (R : Orc) (t176 : DV) (t177 : DV) (t178 : DV) : P_tree_one_19h R t176 t177 t178 =
  (ob (dBin .lss t178 t177) fun d1 =>
  oif d1
   (ob (dIdx 7 t176 t178) fun d2 =>
   ob (R.p F_tree_CheckPat [(.agg [(proj 0 d2), (proj 1 d2), (proj 2 d2), (proj 3 d2), (proj 4 d2), (proj 5 d2), (proj 6 d2)])]) fun d3 =>
   ob (dBin .neq d3 (.int .i64 0)) fun d4 =>
   oif d4
    (some (.bool false))
    (ob (dBin .add t178 (.int .i64 1)) fun d5 =>
    P_tree_one_19h R t176 t177 d5))
   (some (.bool true))) := headP_of [4, 6, 8, 10, 12, 14, 16, 18] (by kernel_rfl)
theorem fix_tree_one (x0 : DV) : (run cfg).p F_tree_one [x0] = P_tree_one (run cfg) x0 :=
  (fix_pure (C := cfg) (f := F_tree_one) (fn := Try.f86) (c := code_tree_one) (by kernel_rfl) Try.func86 (by kernel_rfl)).trans (by kernel_rfl)
theorem call_tree_one (x0 : DV) {d : DV} (h : P_tree_one (run cfg) x0 = some d) : (run cfg).p F_tree_one [x0] = some d := (fix_tree_one x0).trans h

/-! ### tree_none -/
noncomputable def code_tree_none : Code := Try.f87.body.getD .skip
noncomputable def P_tree_none (R : Orc) (x0 : DV) : Option DV := evP cfg R fl_tree_none (retP cfg.P Try.f87) [] code_tree_none (initSt Try.f87 [(x0, .val)] [])
theorem eq_tree_none (R : Orc) (x0 : DV) : P_tree_none R x0 =
  (og (isAggN 3 x0) <|
  ob (dBin .eql (proj 0 x0) (.int .i64 0)) fun d1 =>
  ogd d1
   (ob (dBin .eql (proj 1 x0) (.int .i64 0)) fun d2 =>
   ogd d2
    (ob (dLen (proj 2 x0)) fun d3 =>
    ob (dBin .eql d3 (.int .i64 0)) fun d4 =>
    some d4)
    (some (.bool false))
    none)
   (some (.bool false))
   none) := evP_of [] (by kernel_rfl)
theorem fix_tree_none (x0 : DV) : (run cfg).p F_tree_none [x0] = P_tree_none (run cfg) x0 :=
  (fix_pure (C := cfg) (f := F_tree_none) (fn := Try.f87) (c := code_tree_none) (by kernel_rfl) Try.func87 (by kernel_rfl)).trans (by kernel_rfl)
theorem call_tree_none (x0 : DV) {d : DV} (h : P_tree_none (run cfg) x0 = some d) : (run cfg).p F_tree_none [x0] = some d := (fix_tree_none x0).trans h

/-! ### tree_value -/
noncomputable def code_tree_value : Code := Try.f88.body.getD .skip
noncomputable def P_tree_value (R : Orc) (x0 : DV) : Option DV := evP cfg R fl_tree_value (retP cfg.P Try.f88) [] code_tree_value (initSt Try.f88 [(x0, .val)] [])
noncomputable def P_tree_value_12 (R : Orc) (b1 : DV) : Option DV := evP cfg R fl_tree_value (retP cfg.P Try.f88) [true, false, true, false, true, true, true, false] code_tree_value ⟨spread .undef 28 0 [], spread .val 28 0 [(1, (.loc 1 0))], spread none 28 0 [(1, some [((proj 0 b1), .val), ((proj 1 b1), .val), ((proj 2 b1), .val), ((proj 3 b1), .val), ((proj 4 b1), .val), ((proj 5 b1), .val), ((proj 6 b1), .val), ((proj 7 b1), .val), ((proj 8 b1), .val), ((proj 9 b1), .val), ((proj 10 b1), .val), ((proj 11 b1), .val), ((proj 12 b1), .val), ((proj 13 b1), .val), ((proj 14 b1), .val), ((proj 15 b1), .val)])], []⟩
theorem eq_tree_value (R : Orc) (x0 : DV) : P_tree_value R x0 =
  (og (isAggN 16 x0) <|
  ob (dBin .eql (proj 0 x0) (.int .i64 1)) fun d1 =>
  oif d1
   (some (.bool true))
   (ob (dBin .eql (proj 0 x0) (.int .i64 2)) fun d2 =>
   oif d2
    (some (.bool true))
    (ob (dBin .eql (proj 0 x0) (.int .i64 3)) fun d3 =>
    oif d3
     (some (.bool true))
     (ob (dBin .eql (proj 0 x0) (.int .i64 4)) fun d4 =>
     oif d4
      (some (.bool true))
      (ob (dBin .eql (proj 0 x0) (.int .i64 5)) fun d5 =>
      oif d5
       (some (.bool true))
       (ob (dBin .eql (proj 0 x0) (.int .i64 7)) fun d6 =>
       oif d6
        (some (.bool true))
        (ob (dBin .eql (proj 0 x0) (.int .i64 9)) fun d7 =>
        oif d7
         (some (.bool true))
         (ob (dBin .eql (proj 0 x0) (.int .i64 6)) fun d8 =>
         oif d8
          (P_tree_value_12 R x0)
          (ob (dBin .eql (proj 0 x0) (.int .i64 8)) fun d9 =>
          oif d9
           (P_tree_value_12 R x0)
           (some (.bool false))))))))))) := evP_of [12] (by kernel_rfl)
theorem eq_tree_value_12 (R : Orc) (b1 : DV) : P_tree_value_12 R b1 =
  (ob (dIdx 16 (proj 15 b1) (.int .i64 0)) fun d1 =>
  ob (R.p F_tree_value [(.agg [(proj 0 d1), (proj 1 d1), (proj 2 d1), (proj 3 d1), (proj 4 d1), (proj 5 d1), (proj 6 d1), (proj 7 d1), (proj 8 d1), (proj 9 d1), (proj 10 d1), (proj 11 d1), (proj 12 d1), (proj 13 d1), (proj 14 d1), (proj 15 d1)])]) fun d2 =>
  ogd d2
   (ob (dIdx 16 (proj 15 b1) (.int .i64 1)) fun d3 =>
   ob (R.p F_tree_value [(.agg [(proj 0 d3), (proj 1 d3), (proj 2 d3), (proj 3 d3), (proj 4 d3), (proj 5 d3), (proj 6 d3), (proj 7 d3), (proj 8 d3), (proj 9 d3), (proj 10 d3), (proj 11 d3), (proj 12 d3), (proj 13 d3), (proj 14 d3), (proj 15 d3)])]) fun d4 =>
   some d4)
   (some (.bool false))
   none) := evP_of [12] (by kernel_rfl)
theorem fix_tree_value (x0 : DV) : (run cfg).p F_tree_value [x0] = P_tree_value (run cfg) x0 :=
  (fix_pure (C := cfg) (f := F_tree_value) (fn := Try.f88) (c := code_tree_value) (by kernel_rfl) Try.func88 (by kernel_rfl)).trans (by kernel_rfl)
theorem call_tree_value (x0 : DV) {d : DV} (h : P_tree_value (run cfg) x0 = some d) : (run cfg).p F_tree_value [x0] = some d := (fix_tree_value x0).trans h

/-! ### l03_count -/
noncomputable def code_l03_count : Code := Try.f99.body.getD .skip
noncomputable def P_l03_count (R : Orc) (x0 : DV) (x1 : DV) : Option DV := evP cfg R fl_l03_count (retP cfg.P Try.f99) [] code_l03_count (initSt Try.f99 [(x0, .val), (x1, .val)] [])
noncomputable def P_l03_count_3h (R : Orc) (t1 : DV) (t5 : DV) (b2 : DV) : Option DV := headP cfg R fl_l03_count (retP cfg.P Try.f99) [true, true, false, true, false] code_l03_count ⟨spread .undef 27 0 [(1, t1), (5, t5)], spread .val 27 0 [(2, (.loc 2 0))], spread none 27 0 [(2, some [((proj 0 b2), .val), ((proj 1 b2), .val), ((proj 2 b2), .val)])], []⟩
theorem eq_l03_count (R : Orc) (x0 : DV) (x1 : DV) : P_l03_count R x0 x1 =
  (og (isAggN 3 x0) <|
  ob (dBin .add x1 (.int .i64 1)) fun d1 =>
  P_l03_count_3h R d1 (.int .i64 0) x0) := evP_of [] (by kernel_rfl)
theorem eq_l03_count_3h (R : Orc) (t1 : DV) (t5 : DV) (b2 : DV) : P_l03_count_3h R t1 t5 b2 =
  (ob (dLen (proj 2 b2)) fun d1 =>
  ob (dBin .lss t5 d1) fun d2 =>
  ogd d2
   (ob (dBin .leq t1 (.int .i64 600)) fun d3 =>
   oif d3
    (ob (dIdx 3 (proj 2 b2) t5) fun d4 =>
    ob (R.p F_l03_count [(.agg [(proj 0 d4), (proj 1 d4), (proj 2 d4)]), t1]) fun d5 =>
    ob (dBin .add t5 (.int .i64 1)) fun d6 =>
    P_l03_count_3h R d5 d6 b2)
    (some t1))
   (some t1)
   none) := headP_of [] (by kernel_rfl)
theorem fix_l03_count (x0 : DV) (x1 : DV) : (run cfg).p F_l03_count [x0, x1] = P_l03_count (run cfg) x0 x1 :=
  (fix_pure (C := cfg) (f := F_l03_count) (fn := Try.f99) (c := code_l03_count) (by kernel_rfl) Try.func99 (by kernel_rfl)).trans (by kernel_rfl)
theorem call_l03_count (x0 : DV) (x1 : DV) {d : DV} (h : P_l03_count (run cfg) x0 x1 = some d) : (run cfg).p F_l03_count [x0, x1] = some d := (fix_l03_count x0 x1).trans h

/-! ### r03_vars -/
noncomputable def code_r03_vars : Code := Try.f100.body.getD .skip
noncomputable def P_r03_vars (R : Orc) (x0 : DV) (x1 : DV) (sg : List SObj) : Option (List DV × List SObj) := evP cfg R fl_r03_vars (retR cfg.P Try.f100 sig_r03_vars) [] code_r03_vars (initSt Try.f100 [(x0, .val), (x1, .own)] sg)
noncomputable def P_r03_vars_3 (R : Orc) (t1 : DV) (b2 : DV) (sg : List SObj) : Option (List DV × List SObj) := evP cfg R fl_r03_vars (retR cfg.P Try.f100 sig_r03_vars) [true, true] code_r03_vars ⟨spread .undef 36 0 [(1, t1)], spread .val 36 0 [(1, .own), (2, (.loc 2 0))], spread none 36 0 [(2, some [((proj 0 b2), .val), ((proj 1 b2), .val), ((proj 2 b2), .val)])], sg⟩
noncomputable def P_r03_vars_4h (R : Orc) (t1 : DV) (t5 : DV) (b2 : DV) (sg : List SObj) : Option (List DV × List SObj) := headP cfg R fl_r03_vars (retR cfg.P Try.f100 sig_r03_vars) [true, true, false, true, false] code_r03_vars ⟨spread .undef 36 0 [(1, t1), (5, t5)], spread .val 36 0 [(1, .own), (2, (.loc 2 0))], spread none 36 0 [(2, some [((proj 0 b2), .val), ((proj 1 b2), .val), ((proj 2 b2), .val)])], sg⟩
theorem eq_r03_vars (R : Orc) (x0 : DV) (x1 : DV) (sg : List SObj) : P_r03_vars R x0 x1 sg =
  (og (isAggN 3 x0) <|
  ob (dBin .eql (proj 0 x0) (.int .i64 6)) fun d1 =>
  ogd d1
   (ob (R.p F_r03_In [x1, (proj 1 x0)]) fun d2 =>
   ob (dUn .not d2) fun d3 =>
   oif d3
    (og (isCell (proj 1 x0)) <|
    ob (dApp 1 x1 (.list 1 [(proj 1 x0)])) fun d4 =>
    P_r03_vars_3 R d4 x0 sg)
    (P_r03_vars_3 R x1 x0 sg))
   (P_r03_vars_3 R x1 x0 sg)
   none) := evP_of [3] (by kernel_rfl)
theorem eq_r03_vars_3 (R : Orc) (t1 : DV) (b2 : DV) (sg : List SObj) : P_r03_vars_3 R t1 b2 sg =
  (P_r03_vars_4h R t1 (.int .i64 0) b2 sg) := evP_of [3] (by kernel_rfl)
theorem eq_r03_vars_4h (R : Orc) (t1 : DV) (t5 : DV) (b2 : DV) (sg : List SObj) : P_r03_vars_4h R t1 t5 b2 sg =
  (ob (dLen (proj 2 b2)) fun d1 =>
  ob (dBin .lss t5 d1) fun d2 =>
  oif d2
   (ob (dIdx 3 (proj 2 b2) t5) fun d3 =>
   ob (R.r F_r03_vars [((.agg [(proj 0 d3), (proj 1 d3), (proj 2 d3)]), .val), (t1, .own)] sg) fun q4 =>
   ob (dBin .add t5 (.int .i64 1)) fun d5 =>
   P_r03_vars_4h R (q4.1.getD 0 .undef) d5 b2 q4.2)
   (some ([t1], sg))) := headP_of [3] (by kernel_rfl)
theorem fix_r03_vars (x0 : DV) (x1 : DV) (sg : List SObj) : (run cfg).r F_r03_vars [(x0, .val), (x1, .own)] sg = P_r03_vars (run cfg) x0 x1 sg :=
  (fix_raw (C := cfg) (f := F_r03_vars) (s := sig_r03_vars) (fn := Try.f100) (c := code_r03_vars) (by kernel_rfl) Try.func100 (by kernel_rfl)).trans (by kernel_rfl)
theorem call_r03_vars (x0 : DV) (x1 : DV) (sg : List SObj) {q : List DV × List SObj} (h : P_r03_vars (run cfg) x0 x1 sg = some q) : (run cfg).r F_r03_vars [(x0, .val), (x1, .own)] sg = some q := (fix_r03_vars x0 x1 sg).trans h

/-! ### keep_Type -/
noncomputable def code_keep_Type : Code := Try.f111.body.getD .skip
noncomputable def P_keep_Type (R : Orc) (x0 : DV) : Option DV := evP cfg R fl_keep_Type (retP cfg.P Try.f111) [] code_keep_Type (initSt Try.f111 [(x0, .val)] [])
noncomputable def P_keep_Type_3h (R : Orc) (t4 : DV) (b1 : DV) (b2_0 : DV) (b2_1 : DV) (b2_2 : DV) (b3_0 : DV) (b3_1 : DV) (b3_2 : DV) : Option DV := headP cfg R fl_keep_Type (retP cfg.P Try.f111) [true, true, false, true, false] code_keep_Type ⟨spread .undef 29 0 [(4, t4)], spread .val 29 0 [(1, (.loc 1 0)), (2, (.loc 2 0)), (3, (.loc 3 0))], spread none 29 0 [(1, some [((proj 0 b1), .val), ((proj 1 b1), .val), ((proj 2 b1), .val)]), (2, some [(b2_0, .val), (b2_1, .val), (b2_2, .val)]), (3, some [(b3_0, .val), (b3_1, .val), (b3_2, .own)])], []⟩
theorem eq_keep_Type (R : Orc) (x0 : DV) : P_keep_Type R x0 =
  (og (isAggN 3 x0) <|
  og (isCell (proj 0 x0)) <|
  og (isCell (proj 1 x0)) <|
  P_keep_Type_3h R (.int .i64 0) x0 (.int .i64 0) (.int .i64 0) (.list 3 []) (proj 0 x0) (proj 1 x0) (.list 3 [])) := evP_of [] (by kernel_rfl)
theorem eq_keep_Type_3h (R : Orc) (t4 : DV) (b1 : DV) (b2_0 : DV) (b2_1 : DV) (b2_2 : DV) (b3_0 : DV) (b3_1 : DV) (b3_2 : DV) : P_keep_Type_3h R t4 b1 b2_0 b2_1 b2_2 b3_0 b3_1 b3_2 =
  (ob (dLen (proj 2 b1)) fun d1 =>
  ob (dBin .lss t4 d1) fun d2 =>
  oif d2
   (ob (dIdx 3 (proj 2 b1) t4) fun d3 =>
   ob (R.p F_keep_Type [(.agg [(proj 0 d3), (proj 1 d3), (proj 2 d3)])]) fun d4 =>
   og (isAggN 3 d4) <|
   ob (dApp 3 b3_2 (.list 3 [d4])) fun d5 =>
   ob (dBin .add t4 (.int .i64 1)) fun d6 =>
   P_keep_Type_3h R d6 b1 b2_0 b2_1 b2_2 b3_0 b3_1 d5)
   (some (.agg [b3_0, b3_1, b3_2]))) := headP_of [] (by kernel_rfl)
theorem fix_keep_Type (x0 : DV) : (run cfg).p F_keep_Type [x0] = P_keep_Type (run cfg) x0 :=
  (fix_pure (C := cfg) (f := F_keep_Type) (fn := Try.f111) (c := code_keep_Type) (by kernel_rfl) Try.func111 (by kernel_rfl)).trans (by kernel_rfl)
theorem call_keep_Type (x0 : DV) {d : DV} (h : P_keep_Type (run cfg) x0 = some d) : (run cfg).p F_keep_Type [x0] = some d := (fix_keep_Type x0).trans h

/-! ### typ_Check -/
noncomputable def code_typ_Check : Code := Try.f112.body.getD .skip
noncomputable def P_typ_Check (R : Orc) (x0 : DV) : Option DV := evP cfg R fl_typ_Check (retP cfg.P Try.f112) [] code_typ_Check (initSt Try.f112 [(x0, .val)] [])
theorem eq_typ_Check (R : Orc) (x0 : DV) : P_typ_Check R x0 =
  (og (isAggN 3 x0) <|
  ob (R.p F_typ_right [(.agg [(proj 0 x0), (proj 1 x0), (proj 2 x0)])]) fun d1 =>
  ob (dUn .not d1) fun d2 =>
  oif d2
   (some (.int .i64 1))
   (some (.int .i64 0))) := evP_of [] (by kernel_rfl)
theorem fix_typ_Check (x0 : DV) : (run cfg).p F_typ_Check [x0] = P_typ_Check (run cfg) x0 :=
  (fix_pure (C := cfg) (f := F_typ_Check) (fn := Try.f112) (c := code_typ_Check) (by kernel_rfl) Try.func112 (by kernel_rfl)).trans (by kernel_rfl)
theorem call_typ_Check (x0 : DV) {d : DV} (h : P_typ_Check (run cfg) x0 = some d) : (run cfg).p F_typ_Check [x0] = some d := (fix_typ_Check x0).trans h

/-! ### scheme_put -/
noncomputable def code_scheme_put : Code := Try.f113.body.getD .skip
noncomputable def P_scheme_put (R : Orc) (x0 : DV) (x1 : DV) (x2 : Nat) (sg : List SObj) : Option (List DV × List SObj) := evP cfg R fl_scheme_put (retR cfg.P Try.f113 sig_scheme_put) [] code_scheme_put (initSt Try.f113 [(x0, .val), (x1, .val), (.undef, (.map x2))] sg)
noncomputable def P_scheme_put_10h (R : Orc) (t1 : DV) (t2i : Nat) (t38 : DV) (t39 : DV) (t40 : DV) (b6_0 : DV) (b6_1 : DV) (b6_2 : DV) (b9_0 : DV) (b9_1 : DV) (b9_2 : DV) (sg : List SObj) : Option (List DV × List SObj) := headP cfg R fl_scheme_put (retR cfg.P Try.f113 sig_scheme_put) [true, true, true, true, false, true, false] code_scheme_put ⟨spread .undef 55 0 [(1, t1), (38, t38), (39, t39), (40, t40)], spread .val 55 0 [(2, (.map t2i)), (6, (.loc 6 0)), (9, (.loc 9 0))], spread none 55 0 [(6, some [(b6_0, .val), (b6_1, .val), (b6_2, .val)]), (9, some [(b9_0, .val), (b9_1, .val), (b9_2, .own)])], sg⟩
theorem eq_scheme_put (R : Orc) (x0 : DV) (x1 : DV) (x2 : Nat) (sg : List SObj) : P_scheme_put R x0 x1 x2 sg =
  (og (isAggN 3 x0) <|
  ob (dBin .eql (proj 0 x0) (.int .i64 6)) fun d1 =>
  oif d1
   (og (isKey false (proj 1 x0) && true) <|
   ob (sgMap sg x2) fun m2 =>
   og (m2.1 == false) <|
   oif (.bool (mGet m2.2 (proj 1 x0)).isSome)
    (ob (dIdx 4 x1 ((mGet m2.2 (proj 1 x0)).getD (.int .i64 0))) fun d3 =>
    some ([(.agg [(proj 1 d3), (proj 2 d3), (proj 3 d3)])], sg))
    (some ([(.agg [(proj 0 x0), (proj 1 x0), (proj 2 x0)])], sg)))
   (ob (dLen (proj 2 x0)) fun d4 =>
   ob (dBin .eql d4 (.int .i64 0)) fun d5 =>
   oif d5
    (some ([(.agg [(proj 0 x0), (proj 1 x0), (proj 2 x0)])], sg))
    (og (isCell (proj 0 x0)) <|
    ob (dLen (proj 2 x0)) fun d6 =>
    P_scheme_put_10h R x1 x2 (proj 2 x0) d6 (.int .i64 0) (.int .i64 0) (.int .i64 0) (.list 3 []) (proj 0 x0) (.int .i64 0) (.list 3 []) sg))) := evP_of [] (by kernel_rfl)
theorem eq_scheme_put_10h (R : Orc) (t1 : DV) (t2i : Nat) (t38 : DV) (t39 : DV) (t40 : DV) (b6_0 : DV) (b6_1 : DV) (b6_2 : DV) (b9_0 : DV) (b9_1 : DV) (b9_2 : DV) (sg : List SObj) : P_scheme_put_10h R t1 t2i t38 t39 t40 b6_0 b6_1 b6_2 b9_0 b9_1 b9_2 sg =
  (ob (dBin .lss t40 t39) fun d1 =>
  oif d1
   (ob (dIdx 3 t38 t40) fun d2 =>
   ob (R.r F_scheme_put [((.agg [(proj 0 d2), (proj 1 d2), (proj 2 d2)]), .val), (t1, .val), (.undef, (.map t2i))] sg) fun q3 =>
   og (isAggN 3 (q3.1.getD 0 .undef)) <|
   ob (dApp 3 b9_2 (.list 3 [(q3.1.getD 0 .undef)])) fun d4 =>
   ob (dBin .add t40 (.int .i64 1)) fun d5 =>
   P_scheme_put_10h R t1 t2i t38 t39 d5 b6_0 b6_1 b6_2 b9_0 b9_1 d4 q3.2)
   (some ([(.agg [b9_0, b9_1, b9_2])], sg))) := headP_of [] (by kernel_rfl)
theorem fix_scheme_put (x0 : DV) (x1 : DV) (x2 : Nat) (sg : List SObj) : (run cfg).r F_scheme_put [(x0, .val), (x1, .val), (.undef, (.map x2))] sg = P_scheme_put (run cfg) x0 x1 x2 sg :=
  (fix_raw (C := cfg) (f := F_scheme_put) (s := sig_scheme_put) (fn := Try.f113) (c := code_scheme_put) (by kernel_rfl) Try.func113 (by kernel_rfl)).trans (by kernel_rfl)
theorem call_scheme_put (x0 : DV) (x1 : DV) (x2 : Nat) (sg : List SObj) {q : List DV × List SObj} (h : P_scheme_put (run cfg) x0 x1 x2 sg = some q) : (run cfg).r F_scheme_put [(x0, .val), (x1, .val), (.undef, (.map x2))] sg = some q := (fix_scheme_put x0 x1 x2 sg).trans h

/-! ### judge_Cast -/
noncomputable def code_judge_Cast : Code := Try.f115.body.getD .skip
noncomputable def P_judge_Cast (R : Orc) (x0 : DV) (x1 : DV) (x2 : DV) : Option DV := evP cfg R fl_judge_Cast (retP cfg.P Try.f115) [] code_judge_Cast (initSt Try.f115 [(x0, .val), (x1, .val), (x2, .val)] [])
set_option maxRecDepth 100000 in
theorem eq_judge_Cast (R : Orc) (x0 : DV) (x1 : DV) (x2 : DV) : P_judge_Cast R x0 x1 x2 =
  (og (isAggN 16 x0) <|
  og (isAggN 3 x1) <|
  ob (R.p F_tree_Check [(.agg [(proj 0 x0), (proj 1 x0), (proj 2 x0), (proj 3 x0), (proj 4 x0), (proj 5 x0), (proj 6 x0), (proj 7 x0), (proj 8 x0), (proj 9 x0), (proj 10 x0), (proj 11 x0), (proj 12 x0), (proj 13 x0), (proj 14 x0), (proj 15 x0)])]) fun d1 =>
  ob (dBin .neq d1 (.int .i64 0)) fun d2 =>
  ogd d2
   (some (.tup [(.agg [(.int .i64 0), (.int .i64 0), (.int .i64 0), (.str ⟨#[]⟩), (.str ⟨#[]⟩), (.int .i64 0), (.str ⟨#[]⟩), (.int .i64 0), (.int .i64 0), (.bool false), (.list 1 []), (.int .i64 0), (.int .i64 0), (.list 3 []), (.int .i64 0), (.int .i64 0), (.list 3 []), (.list 3 []), (.list 7 []), (.list 20 [])]), (.list 8 []), (.agg [(.int .i64 0), (.int .i64 0), (.list 3 [])]), (.int .i64 1)]))
   (ob (R.p F_judge_right [(.agg [(proj 0 x1), (proj 1 x1), (proj 2 x1)])]) fun d3 =>
   ob (dUn .not d3) fun d4 =>
   oif d4
    (some (.tup [(.agg [(.int .i64 0), (.int .i64 0), (.int .i64 0), (.str ⟨#[]⟩), (.str ⟨#[]⟩), (.int .i64 0), (.str ⟨#[]⟩), (.int .i64 0), (.int .i64 0), (.bool false), (.list 1 []), (.int .i64 0), (.int .i64 0), (.list 3 []), (.int .i64 0), (.int .i64 0), (.list 3 []), (.list 3 []), (.list 7 []), (.list 20 [])]), (.list 8 []), (.agg [(.int .i64 0), (.int .i64 0), (.list 3 [])]), (.int .i64 1)]))
    (og (isCell x2) <|
    ob (R.r F_judge_judging_expr [(.undef, (.ptr 1 0)), ((.agg [(proj 0 x0), (proj 1 x0), (proj 2 x0), (proj 3 x0), (proj 4 x0), (proj 5 x0), (proj 6 x0), (proj 7 x0), (proj 8 x0), (proj 9 x0), (proj 10 x0), (proj 11 x0), (proj 12 x0), (proj 13 x0), (proj 14 x0), (proj 15 x0)]), .val), ((.agg [(proj 0 x1), (proj 1 x1), (proj 2 x1)]), .val), ((.list 5 []), .val)] [.map false [], SObj.box [(x2, .val), (.undef, (.map 0)), ((.list 8 []), .full), ((.int .i64 0), .val)]]) fun q5 =>
    og (isAggN 23 (q5.1.getD 0 .undef)) <|
    ob (R.r F_judge_judging_ok [(.undef, (.ptr 1 0))] q5.2) fun q6 =>
    ob (dUn .not (q6.1.getD 0 .undef)) fun d7 =>
    oif d7
     (ob (sgBox q6.2 1) fun c8 =>
     ob (cellDat c8 3) fun d9 =>
     some (.tup [(.agg [(.int .i64 0), (.int .i64 0), (.int .i64 0), (.str ⟨#[]⟩), (.str ⟨#[]⟩), (.int .i64 0), (.str ⟨#[]⟩), (.int .i64 0), (.int .i64 0), (.bool false), (.list 1 []), (.int .i64 0), (.int .i64 0), (.list 3 []), (.int .i64 0), (.int .i64 0), (.list 3 []), (.list 3 []), (.list 7 []), (.list 20 [])]), (.list 8 []), (.agg [(.int .i64 0), (.int .i64 0), (.list 3 [])]), d9]))
     (ob (sgBox q6.2 1) fun c10 =>
     ob (cellDat c10 2) fun d11 =>
     some (.tup [(.agg [(proj 3 (q5.1.getD 0 .undef)), (proj 4 (q5.1.getD 0 .undef)), (proj 5 (q5.1.getD 0 .undef)), (proj 6 (q5.1.getD 0 .undef)), (proj 7 (q5.1.getD 0 .undef)), (proj 8 (q5.1.getD 0 .undef)), (proj 9 (q5.1.getD 0 .undef)), (proj 10 (q5.1.getD 0 .undef)), (proj 11 (q5.1.getD 0 .undef)), (proj 12 (q5.1.getD 0 .undef)), (proj 13 (q5.1.getD 0 .undef)), (proj 14 (q5.1.getD 0 .undef)), (proj 15 (q5.1.getD 0 .undef)), (proj 16 (q5.1.getD 0 .undef)), (proj 17 (q5.1.getD 0 .undef)), (proj 18 (q5.1.getD 0 .undef)), (proj 19 (q5.1.getD 0 .undef)), (proj 20 (q5.1.getD 0 .undef)), (proj 21 (q5.1.getD 0 .undef)), (proj 22 (q5.1.getD 0 .undef))]), d11, (.agg [(proj 0 (q5.1.getD 0 .undef)), (proj 1 (q5.1.getD 0 .undef)), (proj 2 (q5.1.getD 0 .undef))]), (.int .i64 0)]))))
   none) := evP_of [] (by kernel_rfl)
theorem fix_judge_Cast (x0 : DV) (x1 : DV) (x2 : DV) : (run cfg).p F_judge_Cast [x0, x1, x2] = P_judge_Cast (run cfg) x0 x1 x2 :=
  (fix_pure (C := cfg) (f := F_judge_Cast) (fn := Try.f115) (c := code_judge_Cast) (by kernel_rfl) Try.func115 (by kernel_rfl)).trans (by kernel_rfl)
theorem call_judge_Cast (x0 : DV) (x1 : DV) (x2 : DV) {d : DV} (h : P_judge_Cast (run cfg) x0 x1 x2 = some d) : (run cfg).p F_judge_Cast [x0, x1, x2] = some d := (fix_judge_Cast x0 x1 x2).trans h

/-! ### elab_plain -/
noncomputable def code_elab_plain : Code := Try.f116.body.getD .skip
noncomputable def P_elab_plain (R : Orc) (x0 : DV) (x1 : Nat) (sg : List SObj) : Option (List DV × List SObj) := evP cfg R fl_elab_plain (retR cfg.P Try.f116 sig_elab_plain) [] code_elab_plain (initSt Try.f116 [(x0, .val), (.undef, (.map x1))] sg)
noncomputable def P_elab_plain_3 (R : Orc) (t1i : Nat) (b2 : DV) (b4_0 : DV) (b4_1 : DV) (b4_2 : DV) (sg : List SObj) : Option (List DV × List SObj) := evP cfg R fl_elab_plain (retR cfg.P Try.f116 sig_elab_plain) [true, true] code_elab_plain ⟨spread .undef 46 0 [], spread .val 46 0 [(1, (.map t1i)), (2, (.loc 2 0)), (4, (.loc 4 0))], spread none 46 0 [(2, some [((proj 0 b2), .val), ((proj 1 b2), .val), ((proj 2 b2), .val)]), (4, some [(b4_0, .val), (b4_1, .val), (b4_2, .val)])], sg⟩
noncomputable def P_elab_plain_7h (R : Orc) (t1i : Nat) (t30 : DV) (t31 : DV) (t32 : DV) (b4_0 : DV) (b4_1 : DV) (b4_2 : DV) (b5_0 : DV) (b5_1 : DV) (b5_2 : DV) (sg : List SObj) : Option (List DV × List SObj) := headP cfg R fl_elab_plain (retR cfg.P Try.f116 sig_elab_plain) [true, true, true, true, false, true, false] code_elab_plain ⟨spread .undef 46 0 [(30, t30), (31, t31), (32, t32)], spread .val 46 0 [(1, (.map t1i)), (4, (.loc 4 0)), (5, (.loc 5 0))], spread none 46 0 [(4, some [(b4_0, .val), (b4_1, .val), (b4_2, .val)]), (5, some [(b5_0, .val), (b5_1, .val), (b5_2, .own)])], sg⟩
theorem eq_elab_plain (R : Orc) (x0 : DV) (x1 : Nat) (sg : List SObj) : P_elab_plain R x0 x1 sg =
  (og (isAggN 3 x0) <|
  ob (dBin .eql (proj 0 x0) (.int .i64 6)) fun d1 =>
  ogd d1
   (og (isKey false (proj 1 x0) && true) <|
   ob (sgMap sg x1) fun m2 =>
   og (m2.1 == false) <|
   ob (dBin .eql ((mGet m2.2 (proj 1 x0)).getD (.int .i64 0)) (.int .i64 0)) fun d3 =>
   oif d3
    (some ([(.agg [(.int .i64 5), (.int .i64 0), (.list 3 [])])], sg))
    (P_elab_plain_3 R x1 x0 (.int .i64 0) (.int .i64 0) (.list 3 []) sg))
   (P_elab_plain_3 R x1 x0 (.int .i64 0) (.int .i64 0) (.list 3 []) sg)
   none) := evP_of [3] (by kernel_rfl)
theorem eq_elab_plain_3 (R : Orc) (t1i : Nat) (b2 : DV) (b4_0 : DV) (b4_1 : DV) (b4_2 : DV) (sg : List SObj) : P_elab_plain_3 R t1i b2 b4_0 b4_1 b4_2 sg =
  (ob (dLen (proj 2 b2)) fun d1 =>
  ob (dBin .eql d1 (.int .i64 0)) fun d2 =>
  oif d2
   (some ([(.agg [(proj 0 b2), (proj 1 b2), (proj 2 b2)])], sg))
   (og (isCell (proj 0 b2)) <|
   og (isCell (proj 1 b2)) <|
   ob (dLen (proj 2 b2)) fun d3 =>
   P_elab_plain_7h R t1i (proj 2 b2) d3 (.int .i64 0) b4_0 b4_1 b4_2 (proj 0 b2) (proj 1 b2) (.list 3 []) sg)) := evP_of [3] (by kernel_rfl)
theorem eq_elab_plain_7h (R : Orc) (t1i : Nat) (t30 : DV) (t31 : DV) (t32 : DV) (b4_0 : DV) (b4_1 : DV) (b4_2 : DV) (b5_0 : DV) (b5_1 : DV) (b5_2 : DV) (sg : List SObj) : P_elab_plain_7h R t1i t30 t31 t32 b4_0 b4_1 b4_2 b5_0 b5_1 b5_2 sg =
  (ob (dBin .lss t32 t31) fun d1 =>
  oif d1
   (ob (dIdx 3 t30 t32) fun d2 =>
   ob (R.r F_elab_plain [((.agg [(proj 0 d2), (proj 1 d2), (proj 2 d2)]), .val), (.undef, (.map t1i))] sg) fun q3 =>
   og (isAggN 3 (q3.1.getD 0 .undef)) <|
   ob (dApp 3 b5_2 (.list 3 [(q3.1.getD 0 .undef)])) fun d4 =>
   ob (dBin .add t32 (.int .i64 1)) fun d5 =>
   P_elab_plain_7h R t1i t30 t31 d5 b4_0 b4_1 b4_2 b5_0 b5_1 d4 q3.2)
   (some ([(.agg [b5_0, b5_1, b5_2])], sg))) := headP_of [3] (by kernel_rfl)
theorem fix_elab_plain (x0 : DV) (x1 : Nat) (sg : List SObj) : (run cfg).r F_elab_plain [(x0, .val), (.undef, (.map x1))] sg = P_elab_plain (run cfg) x0 x1 sg :=
  (fix_raw (C := cfg) (f := F_elab_plain) (s := sig_elab_plain) (fn := Try.f116) (c := code_elab_plain) (by kernel_rfl) Try.func116 (by kernel_rfl)).trans (by kernel_rfl)
theorem call_elab_plain (x0 : DV) (x1 : Nat) (sg : List SObj) {q : List DV × List SObj} (h : P_elab_plain (run cfg) x0 x1 sg = some q) : (run cfg).r F_elab_plain [(x0, .val), (.undef, (.map x1))] sg = some q := (fix_elab_plain x0 x1 sg).trans h

/-! ### r17_dynamic -/
noncomputable def code_r17_dynamic : Code := Try.f117.body.getD .skip
noncomputable def P_r17_dynamic (R : Orc) (x0 : DV) (x1 : DV) : Option DV := evP cfg R fl_r17_dynamic (retP cfg.P Try.f117) [] code_r17_dynamic (initSt Try.f117 [(x0, .val), (x1, .val)] [])
noncomputable def P_r17_dynamic_3 (R : Orc) (t1 : DV) (b2 : DV) (b4_0 : DV) (b4_1 : DV) (b4_2 : DV) : Option DV := evP cfg R fl_r17_dynamic (retP cfg.P Try.f117) [true, true] code_r17_dynamic ⟨spread .undef 43 0 [(1, t1)], spread .val 43 0 [(2, (.loc 2 0)), (4, (.loc 4 0))], spread none 43 0 [(2, some [((proj 0 b2), .val), ((proj 1 b2), .val), ((proj 2 b2), .val)]), (4, some [(b4_0, .val), (b4_1, .val), (b4_2, .val)])], []⟩
noncomputable def P_r17_dynamic_5h (R : Orc) (t1 : DV) (t6 : DV) (b2 : DV) (b4_0 : DV) (b4_1 : DV) (b4_2 : DV) (b5_0 : DV) (b5_1 : DV) (b5_2 : DV) : Option DV := headP cfg R fl_r17_dynamic (retP cfg.P Try.f117) [true, true, true, false, true, false] code_r17_dynamic ⟨spread .undef 43 0 [(1, t1), (6, t6)], spread .val 43 0 [(2, (.loc 2 0)), (4, (.loc 4 0)), (5, (.loc 5 0))], spread none 43 0 [(2, some [((proj 0 b2), .val), ((proj 1 b2), .val), ((proj 2 b2), .val)]), (4, some [(b4_0, .val), (b4_1, .val), (b4_2, .val)]), (5, some [(b5_0, .val), (b5_1, .val), (b5_2, .own)])], []⟩
theorem eq_r17_dynamic (R : Orc) (x0 : DV) (x1 : DV) : P_r17_dynamic R x0 x1 =
  (og (isAggN 3 x0) <|
  ob (dBin .eql (proj 0 x0) (.int .i64 6)) fun d1 =>
  ogd d1
   (ob (R.p F_r03_In [x1, (proj 1 x0)]) fun d2 =>
   ob (dUn .not d2) fun d3 =>
   oif d3
    (ob (R.p F_r03_Leaf [(.int .i64 5)]) fun d4 =>
    og (isAggN 3 d4) <|
    some (.agg [(proj 0 d4), (proj 1 d4), (proj 2 d4)]))
    (P_r17_dynamic_3 R x1 x0 (.int .i64 0) (.int .i64 0) (.list 3 [])))
   (P_r17_dynamic_3 R x1 x0 (.int .i64 0) (.int .i64 0) (.list 3 []))
   none) := evP_of [3] (by kernel_rfl)
theorem eq_r17_dynamic_3 (R : Orc) (t1 : DV) (b2 : DV) (b4_0 : DV) (b4_1 : DV) (b4_2 : DV) : P_r17_dynamic_3 R t1 b2 b4_0 b4_1 b4_2 =
  (og (isCell (proj 0 b2)) <|
  og (isCell (proj 1 b2)) <|
  P_r17_dynamic_5h R t1 (.int .i64 0) b2 b4_0 b4_1 b4_2 (proj 0 b2) (proj 1 b2) (.list 3 [])) := evP_of [3] (by kernel_rfl)
theorem eq_r17_dynamic_5h (R : Orc) (t1 : DV) (t6 : DV) (b2 : DV) (b4_0 : DV) (b4_1 : DV) (b4_2 : DV) (b5_0 : DV) (b5_1 : DV) (b5_2 : DV) : P_r17_dynamic_5h R t1 t6 b2 b4_0 b4_1 b4_2 b5_0 b5_1 b5_2 =
  (ob (dLen (proj 2 b2)) fun d1 =>
  ob (dBin .lss t6 d1) fun d2 =>
  oif d2
   (ob (dIdx 3 (proj 2 b2) t6) fun d3 =>
   ob (R.p F_r17_dynamic [(.agg [(proj 0 d3), (proj 1 d3), (proj 2 d3)]), t1]) fun d4 =>
   og (isAggN 3 d4) <|
   ob (dApp 3 b5_2 (.list 3 [d4])) fun d5 =>
   ob (dBin .add t6 (.int .i64 1)) fun d6 =>
   P_r17_dynamic_5h R t1 d6 b2 b4_0 b4_1 b4_2 b5_0 b5_1 d5)
   (some (.agg [b5_0, b5_1, b5_2]))) := headP_of [3] (by kernel_rfl)
theorem fix_r17_dynamic (x0 : DV) (x1 : DV) : (run cfg).p F_r17_dynamic [x0, x1] = P_r17_dynamic (run cfg) x0 x1 :=
  (fix_pure (C := cfg) (f := F_r17_dynamic) (fn := Try.f117) (c := code_r17_dynamic) (by kernel_rfl) Try.func117 (by kernel_rfl)).trans (by kernel_rfl)
theorem call_r17_dynamic (x0 : DV) (x1 : DV) {d : DV} (h : P_r17_dynamic (run cfg) x0 x1 = some d) : (run cfg).p F_r17_dynamic [x0, x1] = some d := (fix_r17_dynamic x0 x1).trans h

/-! ### word_Name -/
noncomputable def code_word_Name : Code := Try.f121.body.getD .skip
noncomputable def P_word_Name (R : Orc) (x0 : DV) : Option DV := evP cfg R fl_word_Name (retP cfg.P Try.f121) [] code_word_Name (initSt Try.f121 [(x0, .val)] [])
noncomputable def P_word_Name_4h (R : Orc) (t0 : DV) (t3 : DV) : Option DV := headP cfg R fl_word_Name (retP cfg.P Try.f121) [true, true, false, true, false] code_word_Name ⟨spread .undef 37 0 [(0, t0), (3, t3)], spread .val 37 0 [], spread none 37 0 [], []⟩
set_option maxRecDepth 100000 in
theorem eq_word_Name (R : Orc) (x0 : DV) : P_word_Name R x0 =
  (ob (dLenS x0) fun d1 =>
  ob (dBin .lss d1 (.int .i64 1)) fun d2 =>
  ogd d2
   (some (.bool false))
   (ob (dLenS x0) fun d3 =>
   ob (dBin .gtr d3 (.int .i64 32)) fun d4 =>
   ogd d4
    (some (.bool false))
    (ob (dStrIdx x0 (.int .i64 0)) fun d5 =>
    ob (dBin .lss d5 (.int .u8 97)) fun d6 =>
    ogd d6
     (some (.bool false))
     (ob (dStrIdx x0 (.int .i64 0)) fun d7 =>
     ob (dBin .gtr d7 (.int .u8 122)) fun d8 =>
     ogd d8
      (some (.bool false))
      (ob (R.p F_word_Key [x0]) fun d9 =>
      oif d9
       (some (.bool false))
       (P_word_Name_4h R x0 (.int .i64 1)))
      none)
     none)
    none)
   none) := evP_of [] (by kernel_rfl)
theorem eq_word_Name_4h (R : Orc) (t0 : DV) (t3 : DV) : P_word_Name_4h R t0 t3 =
  (ob (dLenS t0) fun d1 =>
  ob (dBin .lss t3 d1) fun d2 =>
  oif d2
   (ob (dStrIdx t0 t3) fun d3 =>
   ob (R.p F_word_inner [d3]) fun d4 =>
   ob (dUn .not d4) fun d5 =>
   oif d5
    (some (.bool false))
    (ob (dBin .add t3 (.int .i64 1)) fun d6 =>
    P_word_Name_4h R t0 d6))
   (some (.bool true))) := headP_of [] (by kernel_rfl)
theorem fix_word_Name (x0 : DV) : (run cfg).p F_word_Name [x0] = P_word_Name (run cfg) x0 :=
  (fix_pure (C := cfg) (f := F_word_Name) (fn := Try.f121) (c := code_word_Name) (by kernel_rfl) Try.func121 (by kernel_rfl)).trans (by kernel_rfl)
theorem call_word_Name (x0 : DV) {d : DV} (h : P_word_Name (run cfg) x0 = some d) : (run cfg).p F_word_Name [x0] = some d := (fix_word_Name x0).trans h

/-! ### tree_closed -/
noncomputable def code_tree_closed : Code := Try.f122.body.getD .skip
noncomputable def P_tree_closed (R : Orc) (x0 : DV) : Option DV := evP cfg R fl_tree_closed (retP cfg.P Try.f122) [] code_tree_closed (initSt Try.f122 [(x0, .val)] [])
theorem eq_tree_closed (R : Orc) (x0 : DV) : P_tree_closed R x0 =
  (og (isAggN 3 x0) <|
  ob (R.p F_typ_Check [(.agg [(proj 0 x0), (proj 1 x0), (proj 2 x0)])]) fun d1 =>
  ob (dBin .eql d1 (.int .i64 0)) fun d2 =>
  ogd d2
   (ob (R.p F_typ_Closed [(.agg [(proj 0 x0), (proj 1 x0), (proj 2 x0)])]) fun d3 =>
   some d3)
   (some (.bool false))
   none) := evP_of [] (by kernel_rfl)
theorem fix_tree_closed (x0 : DV) : (run cfg).p F_tree_closed [x0] = P_tree_closed (run cfg) x0 :=
  (fix_pure (C := cfg) (f := F_tree_closed) (fn := Try.f122) (c := code_tree_closed) (by kernel_rfl) Try.func122 (by kernel_rfl)).trans (by kernel_rfl)
theorem call_tree_closed (x0 : DV) {d : DV} (h : P_tree_closed (run cfg) x0 = some d) : (run cfg).p F_tree_closed [x0] = some d := (fix_tree_closed x0).trans h

end Go.Su

/-
  Equations of the program's functions: by program.
-/
namespace Go.Su
open Go.Proofs
set_option linter.unusedVariables false

/-! ### tree_shapeOf -/
noncomputable def code_tree_shapeOf : Code := Try.f137.body.getD .skip
noncomputable def P_tree_shapeOf (R : Orc) (x0 : DV) : Option DV := evP cfg R fl_tree_shapeOf (retP cfg.P Try.f137) [] code_tree_shapeOf (initSt Try.f137 [(x0, .val)] [])
set_option maxRecDepth 100000 in
theorem eq_tree_shapeOf (R : Orc) (x0 : DV) : P_tree_shapeOf R x0 =
  (og (isAggN 16 x0) <|
  ob (dBin .eql (proj 0 x0) (.int .i64 1)) fun d1 =>
  oif d1
   (some (.tup [(.agg [(.bool true), (.bool false), (.bool false), (.bool false), (.bool false), (.bool false), (.bool false), (.bool false), (.int .i64 0)]), (.bool true)]))
   (ob (dBin .eql (proj 0 x0) (.int .i64 2)) fun d2 =>
   oif d2
    (some (.tup [(.agg [(.bool false), (.bool false), (.bool true), (.bool false), (.bool false), (.bool false), (.bool false), (.bool false), (.int .i64 0)]), (.bool true)]))
    (ob (dBin .eql (proj 0 x0) (.int .i64 3)) fun d3 =>
    oif d3
     (some (.tup [(.agg [(.bool false), (.bool false), (.bool true), (.bool false), (.bool false), (.bool false), (.bool false), (.bool false), (.int .i64 0)]), (.bool true)]))
     (ob (dBin .eql (proj 0 x0) (.int .i64 4)) fun d4 =>
     oif d4
      (some (.tup [(.agg [(.bool false), (.bool false), (.bool false), (.bool true), (.bool false), (.bool false), (.bool false), (.bool false), (.int .i64 0)]), (.bool true)]))
      (ob (dBin .eql (proj 0 x0) (.int .i64 5)) fun d5 =>
      oif d5
       (some (.tup [(.agg [(.bool false), (.bool false), (.bool false), (.bool false), (.bool false), (.bool false), (.bool false), (.bool false), (.int .i64 0)]), (.bool true)]))
       (ob (dBin .eql (proj 0 x0) (.int .i64 7)) fun d6 =>
       oif d6
        (some (.tup [(.agg [(.bool false), (.bool false), (.bool false), (.bool false), (.bool false), (.bool false), (.bool false), (.bool false), (.int .i64 0)]), (.bool true)]))
        (ob (dBin .eql (proj 0 x0) (.int .i64 6)) fun d7 =>
        oif d7
         (some (.tup [(.agg [(.bool false), (.bool false), (.bool false), (.bool false), (.bool false), (.bool false), (.bool false), (.bool false), (.int .i64 2)]), (.bool true)]))
         (ob (dBin .eql (proj 0 x0) (.int .i64 8)) fun d8 =>
         oif d8
          (some (.tup [(.agg [(.bool false), (.bool false), (.bool false), (.bool false), (.bool false), (.bool false), (.bool false), (.bool false), (.int .i64 2)]), (.bool true)]))
          (ob (dBin .eql (proj 0 x0) (.int .i64 10)) fun d9 =>
          oif d9
           (some (.tup [(.agg [(.bool false), (.bool false), (.bool false), (.bool false), (.bool false), (.bool false), (.bool false), (.bool false), (.int .i64 2)]), (.bool true)]))
           (ob (dBin .eql (proj 0 x0) (.int .i64 9)) fun d10 =>
           oif d10
            (some (.tup [(.agg [(.bool true), (.bool false), (.bool false), (.bool false), (.bool false), (.bool true), (.bool false), (.bool false), (.int .i64 1)]), (.bool true)]))
            (ob (dBin .eql (proj 0 x0) (.int .i64 11)) fun d11 =>
            oif d11
             (some (.tup [(.agg [(.bool true), (.bool false), (.bool false), (.bool false), (.bool false), (.bool true), (.bool false), (.bool false), (.int .i64 2)]), (.bool true)]))
             (ob (dBin .eql (proj 0 x0) (.int .i64 12)) fun d12 =>
             oif d12
              (some (.tup [(.agg [(.bool true), (.bool true), (.bool false), (.bool false), (.bool false), (.bool true), (.bool true), (.bool false), (.int .i64 2)]), (.bool true)]))
              (ob (dBin .eql (proj 0 x0) (.int .i64 13)) fun d13 =>
              oif d13
               (some (.tup [(.agg [(.bool false), (.bool false), (.bool false), (.bool false), (.bool false), (.bool false), (.bool false), (.bool false), (.int .i64 3)]), (.bool true)]))
               (ob (dBin .eql (proj 0 x0) (.int .i64 14)) fun d14 =>
               oif d14
                (ob (dLen (proj 14 x0)) fun d15 =>
                ob (dBin .add d15 (.int .i64 1)) fun d16 =>
                og (isCell d16) <|
                ob (dLen (proj 14 x0)) fun d17 =>
                ob (dBin .gtr d17 (.int .i64 0)) fun d18 =>
                some (.tup [(.agg [(.bool false), (.bool false), (.bool false), (.bool false), (.bool false), (.bool false), (.bool false), (.bool false), d16]), d18]))
                (ob (dBin .eql (proj 0 x0) (.int .i64 15)) fun d19 =>
                oif d19
                 (some (.tup [(.agg [(.bool false), (.bool false), (.bool false), (.bool false), (.bool false), (.bool true), (.bool false), (.bool true), (.int .i64 1)]), (.bool true)]))
                 (ob (dBin .eql (proj 0 x0) (.int .i64 16)) fun d20 =>
                 oif d20
                  (some (.tup [(.agg [(.bool false), (.bool false), (.bool false), (.bool false), (.bool true), (.bool false), (.bool false), (.bool false), (.int .i64 2)]), (.bool true)]))
                  (some (.tup [(.agg [(.bool false), (.bool false), (.bool false), (.bool false), (.bool false), (.bool false), (.bool false), (.bool false), (.int .i64 0)]), (.bool false)])))))))))))))))))) := evP_of [] (by kernel_rfl)
theorem fix_tree_shapeOf (x0 : DV) : (run cfg).p F_tree_shapeOf [x0] = P_tree_shapeOf (run cfg) x0 :=
  (fix_pure (C := cfg) (f := F_tree_shapeOf) (fn := Try.f137) (c := code_tree_shapeOf) (by kernel_rfl) Try.func137 (by kernel_rfl)).trans (by kernel_rfl)
theorem call_tree_shapeOf (x0 : DV) {d : DV} (h : P_tree_shapeOf (run cfg) x0 = some d) : (run cfg).p F_tree_shapeOf [x0] = some d := (fix_tree_shapeOf x0).trans h

/-! ### r03_In -/
noncomputable def code_r03_In : Code := Try.f143.body.getD .skip
noncomputable def P_r03_In (R : Orc) (x0 : DV) (x1 : DV) : Option DV := evP cfg R fl_r03_In (retP cfg.P Try.f143) [] code_r03_In (initSt Try.f143 [(x0, .val), (x1, .val)] [])
noncomputable def P_r03_In_2h (R : Orc) (t0 : DV) (t1 : DV) (t5 : DV) : Option DV := headP cfg R fl_r03_In (retP cfg.P Try.f143) [true, false, true, false] code_r03_In ⟨spread .undef 18 0 [(0, t0), (1, t1), (5, t5)], spread .val 18 0 [], spread none 18 0 [], []⟩
theorem eq_r03_In (R : Orc) (x0 : DV) (x1 : DV) : P_r03_In R x0 x1 =
  (P_r03_In_2h R x0 x1 (.int .i64 0)) := evP_of [] (by kernel_rfl)
theorem eq_r03_In_2h (R : Orc) (t0 : DV) (t1 : DV) (t5 : DV) : P_r03_In_2h R t0 t1 t5 =
  (ob (dLen t0) fun d1 =>
  ob (dBin .lss t5 d1) fun d2 =>
  oif d2
   (ob (dIdx 1 t0 t5) fun d3 =>
   og (isLeaf d3) <|
   ob (dBin .eql d3 t1) fun d4 =>
   oif d4
    (some (.bool true))
    (ob (dBin .add t5 (.int .i64 1)) fun d5 =>
    P_r03_In_2h R t0 t1 d5))
   (some (.bool false))) := headP_of [] (by kernel_rfl)
theorem fix_r03_In (x0 : DV) (x1 : DV) : (run cfg).p F_r03_In [x0, x1] = P_r03_In (run cfg) x0 x1 :=
  (fix_pure (C := cfg) (f := F_r03_In) (fn := Try.f143) (c := code_r03_In) (by kernel_rfl) Try.func143 (by kernel_rfl)).trans (by kernel_rfl)
theorem call_r03_In (x0 : DV) (x1 : DV) {d : DV} (h : P_r03_In (run cfg) x0 x1 = some d) : (run cfg).p F_r03_In [x0, x1] = some d := (fix_r03_In x0 x1).trans h

/-! ### typ_Vars -/
noncomputable def code_typ_Vars : Code := Try.f145.body.getD .skip
noncomputable def P_typ_Vars (R : Orc) (x0 : DV) : Option DV := evP cfg R fl_typ_Vars (retP cfg.P Try.f145) [] code_typ_Vars (initSt Try.f145 [(x0, .val)] [])
theorem eq_typ_Vars (R : Orc) (x0 : DV) : P_typ_Vars R x0 =
  (og (isAggN 3 x0) <|
  ob (R.r F_typ_vars [((.agg [(proj 0 x0), (proj 1 x0), (proj 2 x0)]), .val), (.undef, (.map 0)), ((.list 1 []), .own)] [.map false []]) fun q1 =>
  some (q1.1.getD 0 .undef)) := evP_of [] (by kernel_rfl)
theorem fix_typ_Vars (x0 : DV) : (run cfg).p F_typ_Vars [x0] = P_typ_Vars (run cfg) x0 :=
  (fix_pure (C := cfg) (f := F_typ_Vars) (fn := Try.f145) (c := code_typ_Vars) (by kernel_rfl) Try.func145 (by kernel_rfl)).trans (by kernel_rfl)
theorem call_typ_Vars (x0 : DV) {d : DV} (h : P_typ_Vars (run cfg) x0 = some d) : (run cfg).p F_typ_Vars [x0] = some d := (fix_typ_Vars x0).trans h

/-! ### pats_Bind -/
noncomputable def code_pats_Bind : Code := Try.f148.body.getD .skip
noncomputable def P_pats_Bind (R : Orc) (x0 : DV) (x1 : DV) : Option DV := evP cfg R fl_pats_Bind (retP cfg.P Try.f148) [] code_pats_Bind (initSt Try.f148 [(x0, .val), (x1, .val)] [])
theorem eq_pats_Bind (R : Orc) (x0 : DV) (x1 : DV) : P_pats_Bind R x0 x1 =
  (og (isAggN 7 x0) <|
  og (isAggN 3 x1) <|
  ob (R.p F_tree_CheckPat [(.agg [(proj 0 x0), (proj 1 x0), (proj 2 x0), (proj 3 x0), (proj 4 x0), (proj 5 x0), (proj 6 x0)])]) fun d1 =>
  ob (dBin .neq d1 (.int .i64 0)) fun d2 =>
  ogd d2
   (some (.tup [(.list 4 []), (.int .i64 1)]))
   (ob (R.p F_typ_Check [(.agg [(proj 0 x1), (proj 1 x1), (proj 2 x1)])]) fun d3 =>
   ob (dBin .neq d3 (.int .i64 0)) fun d4 =>
   oif d4
    (some (.tup [(.list 4 []), (.int .i64 1)]))
    (ob (R.r F_pats_bind [((.agg [(proj 0 x0), (proj 1 x0), (proj 2 x0), (proj 3 x0), (proj 4 x0), (proj 5 x0), (proj 6 x0)]), .val), ((.agg [(proj 0 x1), (proj 1 x1), (proj 2 x1)]), .val), ((.list 4 []), .own)] []) fun q5 =>
    ob (dExt 0 (.tup q5.1)) fun d6 =>
    ob (dExt 1 (.tup q5.1)) fun d7 =>
    ob (dUn .not d7) fun d8 =>
    oif d8
     (some (.tup [(.list 4 []), (.int .i64 4)]))
     (some (.tup [d6, (.int .i64 0)]))))
   none) := evP_of [] (by kernel_rfl)
theorem fix_pats_Bind (x0 : DV) (x1 : DV) : (run cfg).p F_pats_Bind [x0, x1] = P_pats_Bind (run cfg) x0 x1 :=
  (fix_pure (C := cfg) (f := F_pats_Bind) (fn := Try.f148) (c := code_pats_Bind) (by kernel_rfl) Try.func148 (by kernel_rfl)).trans (by kernel_rfl)
theorem call_pats_Bind (x0 : DV) (x1 : DV) {d : DV} (h : P_pats_Bind (run cfg) x0 x1 = some d) : (run cfg).p F_pats_Bind [x0, x1] = some d := (fix_pats_Bind x0 x1).trans h

/-! ### agree_Agree -/
noncomputable def code_agree_Agree : Code := Try.f149.body.getD .skip
noncomputable def P_agree_Agree (R : Orc) (x0 : DV) (x1 : DV) : Option DV := evP cfg R fl_agree_Agree (retP cfg.P Try.f149) [] code_agree_Agree (initSt Try.f149 [(x0, .val), (x1, .val)] [])
theorem eq_agree_Agree (R : Orc) (x0 : DV) (x1 : DV) : P_agree_Agree R x0 x1 =
  (og (isAggN 3 x0) <|
  og (isAggN 3 x1) <|
  ob (R.p F_typ_Check [(.agg [(proj 0 x0), (proj 1 x0), (proj 2 x0)])]) fun d1 =>
  ob (dBin .eql d1 (.int .i64 0)) fun d2 =>
  ogd d2
   (ob (R.p F_typ_Check [(.agg [(proj 0 x1), (proj 1 x1), (proj 2 x1)])]) fun d3 =>
   ob (dBin .eql d3 (.int .i64 0)) fun d4 =>
   ogd d4
    (ob (R.p F_agree_agrees [(.agg [(proj 0 x0), (proj 1 x0), (proj 2 x0)]), (.agg [(proj 0 x1), (proj 1 x1), (proj 2 x1)])]) fun d5 =>
    some d5)
    (some (.bool false))
    none)
   (some (.bool false))
   none) := evP_of [] (by kernel_rfl)
theorem fix_agree_Agree (x0 : DV) (x1 : DV) : (run cfg).p F_agree_Agree [x0, x1] = P_agree_Agree (run cfg) x0 x1 :=
  (fix_pure (C := cfg) (f := F_agree_Agree) (fn := Try.f149) (c := code_agree_Agree) (by kernel_rfl) Try.func149 (by kernel_rfl)).trans (by kernel_rfl)
theorem call_agree_Agree (x0 : DV) (x1 : DV) {d : DV} (h : P_agree_Agree (run cfg) x0 x1 = some d) : (run cfg).p F_agree_Agree [x0, x1] = some d := (fix_agree_Agree x0 x1).trans h

/-! ### typ_right -/
noncomputable def code_typ_right : Code := Try.f150.body.getD .skip
noncomputable def P_typ_right (R : Orc) (x0 : DV) : Option DV := evP cfg R fl_typ_right (retP cfg.P Try.f150) [] code_typ_right (initSt Try.f150 [(x0, .val)] [])
noncomputable def P_typ_right_9h (R : Orc) (t33 : DV) (t34 : DV) (t35 : DV) : Option DV := headP cfg R fl_typ_right (retP cfg.P Try.f150) [true, true, true, true, false, true, false] code_typ_right ⟨spread .undef 43 0 [(33, t33), (34, t34), (35, t35)], spread .val 43 0 [], spread none 43 0 [], []⟩
theorem eq_typ_right (R : Orc) (x0 : DV) : P_typ_right R x0 =
  (og (isAggN 3 x0) <|
  ob (R.p F_typ_arity [(proj 0 x0)]) fun d1 =>
  ob (dBin .lss d1 (.int .i64 0)) fun d2 =>
  ogd d2
   (some (.bool false))
   (ob (dLen (proj 2 x0)) fun d3 =>
   ob (dBin .neq d3 d1) fun d4 =>
   oif d4
    (some (.bool false))
    (ob (dBin .eql (proj 0 x0) (.int .i64 6)) fun d5 =>
    oif d5
     (ob (dBin .geq (proj 1 x0) (.int .i64 0)) fun d6 =>
     ogd d6
      (ob (dBin .leq (proj 1 x0) (.int .i64 1048576)) fun d7 =>
      some d7)
      (some (.bool false))
      none)
     (ob (dBin .neq (proj 1 x0) (.int .i64 0)) fun d8 =>
     oif d8
      (some (.bool false))
      (ob (dLen (proj 2 x0)) fun d9 =>
      P_typ_right_9h R (proj 2 x0) d9 (.int .i64 0)))))
   none) := evP_of [] (by kernel_rfl)
theorem eq_typ_right_9h (R : Orc) (t33 : DV) (t34 : DV) (t35 : DV) : P_typ_right_9h R t33 t34 t35 =
  (ob (dBin .lss t35 t34) fun d1 =>
  oif d1
   (ob (dIdx 3 t33 t35) fun d2 =>
   ob (R.p F_typ_right [(.agg [(proj 0 d2), (proj 1 d2), (proj 2 d2)])]) fun d3 =>
   ob (dUn .not d3) fun d4 =>
   oif d4
    (some (.bool false))
    (ob (dBin .add t35 (.int .i64 1)) fun d5 =>
    P_typ_right_9h R t33 t34 d5))
   (some (.bool true))) := headP_of [] (by kernel_rfl)
theorem fix_typ_right (x0 : DV) : (run cfg).p F_typ_right [x0] = P_typ_right (run cfg) x0 :=
  (fix_pure (C := cfg) (f := F_typ_right) (fn := Try.f150) (c := code_typ_right) (by kernel_rfl) Try.func150 (by kernel_rfl)).trans (by kernel_rfl)
theorem call_typ_right (x0 : DV) {d : DV} (h : P_typ_right (run cfg) x0 = some d) : (run cfg).p F_typ_right [x0] = some d := (fix_typ_right x0).trans h

/-! ### judge_right -/
noncomputable def code_judge_right : Code := Try.f151.body.getD .skip
noncomputable def P_judge_right (R : Orc) (x0 : DV) : Option DV := evP cfg R fl_judge_right (retP cfg.P Try.f151) [] code_judge_right (initSt Try.f151 [(x0, .val)] [])
noncomputable def P_judge_right_2h (R : Orc) (t10 : DV) (t11 : DV) (t12 : DV) (b1 : DV) : Option DV := headP cfg R fl_judge_right (retP cfg.P Try.f151) [true, false, true, false] code_judge_right ⟨spread .undef 45 0 [(10, t10), (11, t11), (12, t12)], spread .val 45 0 [(1, (.loc 1 0))], spread none 45 0 [(1, some [((proj 0 b1), .val), ((proj 1 b1), .val), ((proj 2 b1), .val)])], []⟩
noncomputable def P_judge_right_8h (R : Orc) (t21 : DV) (t22 : DV) (t23 : DV) (b1 : DV) : Option DV := headP cfg R fl_judge_right (retP cfg.P Try.f151) [true, true, false, true, false] code_judge_right ⟨spread .undef 45 0 [(21, t21), (22, t22), (23, t23)], spread .val 45 0 [(1, (.loc 1 0))], spread none 45 0 [(1, some [((proj 0 b1), .val), ((proj 1 b1), .val), ((proj 2 b1), .val)])], []⟩
noncomputable def P_judge_right_14h (R : Orc) (t35 : DV) (t36 : DV) (t37 : DV) : Option DV := headP cfg R fl_judge_right (retP cfg.P Try.f151) [true, true, true, false, true, false] code_judge_right ⟨spread .undef 45 0 [(35, t35), (36, t36), (37, t37)], spread .val 45 0 [], spread none 45 0 [], []⟩
theorem eq_judge_right (R : Orc) (x0 : DV) : P_judge_right R x0 =
  (og (isAggN 3 x0) <|
  ob (dLen (proj 0 x0)) fun d1 =>
  P_judge_right_2h R (proj 0 x0) d1 (.int .i64 0) x0) := evP_of [] (by kernel_rfl)
theorem eq_judge_right_2h (R : Orc) (t10 : DV) (t11 : DV) (t12 : DV) (b1 : DV) : P_judge_right_2h R t10 t11 t12 b1 =
  (ob (dBin .lss t12 t11) fun d1 =>
  oif d1
   (ob (dIdx 3 t10 t12) fun d2 =>
   ob (R.p F_typ_Check [(.agg [(proj 0 d2), (proj 1 d2), (proj 2 d2)])]) fun d3 =>
   ob (dBin .neq d3 (.int .i64 0)) fun d4 =>
   oif d4
    (some (.bool false))
    (ob (dBin .add t12 (.int .i64 1)) fun d5 =>
    P_judge_right_2h R t10 t11 d5 b1))
   (ob (dLen (proj 1 b1)) fun d6 =>
   P_judge_right_8h R (proj 1 b1) d6 (.int .i64 0) b1)) := headP_of [] (by kernel_rfl)
theorem eq_judge_right_8h (R : Orc) (t21 : DV) (t22 : DV) (t23 : DV) (b1 : DV) : P_judge_right_8h R t21 t22 t23 b1 =
  (ob (dBin .lss t23 t22) fun d1 =>
  oif d1
   (ob (dIdx 1 t21 t23) fun d2 =>
   og (isLeaf d2) <|
   ob (dBin .lss d2 (.int .i64 0)) fun d3 =>
   ogd d3
    (some (.bool false))
    (ob (dBin .gtr d2 (.int .i64 1048576)) fun d4 =>
    oif d4
     (some (.bool false))
     (ob (dBin .add t23 (.int .i64 1)) fun d5 =>
     P_judge_right_8h R t21 t22 d5 b1))
    none)
   (ob (dLen (proj 2 b1)) fun d6 =>
   P_judge_right_14h R (proj 2 b1) d6 (.int .i64 0))) := headP_of [] (by kernel_rfl)
theorem eq_judge_right_14h (R : Orc) (t35 : DV) (t36 : DV) (t37 : DV) : P_judge_right_14h R t35 t36 t37 =
  (ob (dBin .lss t37 t36) fun d1 =>
  oif d1
   (ob (dIdx 3 t35 t37) fun d2 =>
   ob (R.p F_judge_right [(.agg [(proj 0 d2), (proj 1 d2), (proj 2 d2)])]) fun d3 =>
   ob (dUn .not d3) fun d4 =>
   oif d4
    (some (.bool false))
    (ob (dBin .add t37 (.int .i64 1)) fun d5 =>
    P_judge_right_14h R t35 t36 d5))
   (some (.bool true))) := headP_of [] (by kernel_rfl)
theorem fix_judge_right (x0 : DV) : (run cfg).p F_judge_right [x0] = P_judge_right (run cfg) x0 :=
  (fix_pure (C := cfg) (f := F_judge_right) (fn := Try.f151) (c := code_judge_right) (by kernel_rfl) Try.func151 (by kernel_rfl)).trans (by kernel_rfl)
theorem call_judge_right (x0 : DV) {d : DV} (h : P_judge_right (run cfg) x0 = some d) : (run cfg).p F_judge_right [x0] = some d := (fix_judge_right x0).trans h

/-! ### judge_judging_expr -/
noncomputable def code_judge_judging_expr : Code := Try.f152.body.getD .skip
noncomputable def P_judge_judging_expr (R : Orc) (x0 : Nat) (x1 : DV) (x2 : DV) (x3 : DV) (sg : List SObj) : Option (List DV × List SObj) := evP cfg R fl_judge_judging_expr (retR cfg.P Try.f152 sig_judge_judging_expr) [] code_judge_judging_expr (initSt Try.f152 [(.undef, (.ptr x0 0)), (x1, .val), (x2, .val), (x3, .val)] sg)
noncomputable def P_judge_judging_expr_4 (R : Orc) (t0i : Nat) (t3 : DV) (t10 : DV) (b5 : DV) (b6 : DV) (b8_0 : DV) (b8_1 : DV) (b8_2 : DV) (b8_3 : DV) (b8_4 : DV) (b8_5 : DV) (b8_6 : DV) (b8_7 : DV) (b8_8 : DV) (b8_9 : DV) (b8_10 : DV) (b8_11 : DV) (b8_12 : DV) (b8_13 : DV) (b8_14 : DV) (b8_15 : DV) (b8_16 : DV) (b8_17 : DV) (b8_18 : DV) (b8_19 : DV) (b8_20 : DV) (b8_21 : DV) (b8_22 : DV) (b9_0 : DV) (b9_1 : DV) (b9_2 : DV) (b9_3 : DV) (b9_4 : DV) (sg : List SObj) : Option (List DV × List SObj) := evP cfg R fl_judge_judging_expr (retR cfg.P Try.f152 sig_judge_judging_expr) [true, true, true] code_judge_judging_expr ⟨spread .undef 182 0 [(3, t3), (10, t10)], spread .val 182 0 [(0, (.ptr t0i 0)), (5, (.loc 5 0)), (6, (.loc 6 0)), (8, (.loc 8 0)), (9, (.loc 9 0))], spread none 182 0 [(5, some [((proj 0 b5), .val), ((proj 1 b5), .val), ((proj 2 b5), .val), ((proj 3 b5), .val), ((proj 4 b5), .val), ((proj 5 b5), .val), ((proj 6 b5), .val), ((proj 7 b5), .val), ((proj 8 b5), .val), ((proj 9 b5), .val), ((proj 10 b5), .val), ((proj 11 b5), .val), ((proj 12 b5), .val), ((proj 13 b5), .val), ((proj 14 b5), .val), ((proj 15 b5), .val)]), (6, some [((proj 0 b6), .val), ((proj 1 b6), .val), ((proj 2 b6), .val)]), (8, some [(b8_0, .val), (b8_1, .val), (b8_2, .val), (b8_3, .val), (b8_4, .val), (b8_5, .val), (b8_6, .val), (b8_7, .val), (b8_8, .val), (b8_9, .val), (b8_10, .val), (b8_11, .val), (b8_12, .val), (b8_13, .val), (b8_14, .val), (b8_15, .val), (b8_16, .val), (b8_17, .val), (b8_18, .val), (b8_19, .val), (b8_20, .val), (b8_21, .val), (b8_22, .val)]), (9, some [(b9_0, .val), (b9_1, .val), (b9_2, .val), (b9_3, .val), (b9_4, .val)])], sg⟩
noncomputable def P_judge_judging_expr_26 (R : Orc) (t0i : Nat) (t3 : DV) (t47 : DV) (b5 : DV) (b6 : DV) (b8_0 : DV) (b8_1 : DV) (b8_2 : DV) (b8_3 : DV) (b8_4 : DV) (b8_5 : DV) (b8_6 : DV) (b8_7 : DV) (b8_8 : DV) (b8_9 : DV) (b8_10 : DV) (b8_11 : DV) (b8_12 : DV) (b8_13 : DV) (b8_14 : DV) (b8_15 : DV) (b8_16 : DV) (b8_17 : DV) (b8_18 : DV) (b8_19 : DV) (b8_20 : DV) (b8_21 : DV) (b8_22 : DV) (sg : List SObj) : Option (List DV × List SObj) := evP cfg R fl_judge_judging_expr (retR cfg.P Try.f152 sig_judge_judging_expr) [true, true, true, true, true, false, true, false, true, true, true, true, true, true, true, true, true, true, true, true] code_judge_judging_expr ⟨spread .undef 182 0 [(3, t3), (47, t47)], spread .val 182 0 [(0, (.ptr t0i 0)), (5, (.loc 5 0)), (6, (.loc 6 0)), (8, (.loc 8 0))], spread none 182 0 [(5, some [((proj 0 b5), .val), ((proj 1 b5), .val), ((proj 2 b5), .val), ((proj 3 b5), .val), ((proj 4 b5), .val), ((proj 5 b5), .val), ((proj 6 b5), .val), ((proj 7 b5), .val), ((proj 8 b5), .val), ((proj 9 b5), .val), ((proj 10 b5), .val), ((proj 11 b5), .val), ((proj 12 b5), .val), ((proj 13 b5), .val), ((proj 14 b5), .val), ((proj 15 b5), .val)]), (6, some [((proj 0 b6), .val), ((proj 1 b6), .val), ((proj 2 b6), .val)]), (8, some [(b8_0, .val), (b8_1, .val), (b8_2, .val), (b8_3, .val), (b8_4, .val), (b8_5, .val), (b8_6, .val), (b8_7, .val), (b8_8, .val), (b8_9, .val), (b8_10, .val), (b8_11, .val), (b8_12, .val), (b8_13, .val), (b8_14, .val), (b8_15, .val), (b8_16, .val), (b8_17, .val), (b8_18, .val), (b8_19, .val), (b8_20, .val), (b8_21, .val), (b8_22, .val)])], sg⟩
theorem eq_judge_judging_expr (R : Orc) (x0 : Nat) (x1 : DV) (x2 : DV) (x3 : DV) (sg : List SObj) : P_judge_judging_expr R x0 x1 x2 x3 sg =
  (og (isAggN 16 x1) <|
  og (isAggN 3 x2) <|
  ob (dBin .eql (proj 0 x1) (.int .i64 1)) fun d1 =>
  oif d1
   (ob (R.p F_judge_find [x3, (proj 3 x1)]) fun d2 =>
   ob (dExt 0 d2) fun d3 =>
   ob (dExt 1 d2) fun d4 =>
   og (isAggN 5 d3) <|
   P_judge_judging_expr_4 R x0 x3 d4 x1 x2 (.int .i64 0) (.int .i64 0) (.list 3 []) (.int .i64 0) (.int .i64 0) (.int .i64 0) (.str ⟨#[]⟩) (.str ⟨#[]⟩) (.int .i64 0) (.str ⟨#[]⟩) (.int .i64 0) (.int .i64 0) (.bool false) (.list 1 []) (.int .i64 0) (.int .i64 0) (.list 3 []) (.int .i64 0) (.int .i64 0) (.list 3 []) (.list 3 []) (.list 7 []) (.list 20 []) (proj 0 d3) (proj 1 d3) (proj 2 d3) (proj 3 d3) (proj 4 d3) sg)
   (P_judge_judging_expr_4 R x0 x3 (.bool true) x1 x2 (.int .i64 0) (.int .i64 0) (.list 3 []) (.int .i64 0) (.int .i64 0) (.int .i64 0) (.str ⟨#[]⟩) (.str ⟨#[]⟩) (.int .i64 0) (.str ⟨#[]⟩) (.int .i64 0) (.int .i64 0) (.bool false) (.list 1 []) (.int .i64 0) (.int .i64 0) (.list 3 []) (.int .i64 0) (.int .i64 0) (.list 3 []) (.list 3 []) (.list 7 []) (.list 20 []) (.str ⟨#[]⟩) (.int .i64 0) (.int .i64 0) (.list 3 []) (.list 1 []) sg)) := evP_of [4, 26] (by kernel_rfl)
set_option maxRecDepth 100000 in
theorem eq_judge_judging_expr_4 (R : Orc) (t0i : Nat) (t3 : DV) (t10 : DV) (b5 : DV) (b6 : DV) (b8_0 : DV) (b8_1 : DV) (b8_2 : DV) (b8_3 : DV) (b8_4 : DV) (b8_5 : DV) (b8_6 : DV) (b8_7 : DV) (b8_8 : DV) (b8_9 : DV) (b8_10 : DV) (b8_11 : DV) (b8_12 : DV) (b8_13 : DV) (b8_14 : DV) (b8_15 : DV) (b8_16 : DV) (b8_17 : DV) (b8_18 : DV) (b8_19 : DV) (b8_20 : DV) (b8_21 : DV) (b8_22 : DV) (b9_0 : DV) (b9_1 : DV) (b9_2 : DV) (b9_3 : DV) (b9_4 : DV) (sg : List SObj) : P_judge_judging_expr_4 R t0i t3 t10 b5 b6 b8_0 b8_1 b8_2 b8_3 b8_4 b8_5 b8_6 b8_7 b8_8 b8_9 b8_10 b8_11 b8_12 b8_13 b8_14 b8_15 b8_16 b8_17 b8_18 b8_19 b8_20 b8_21 b8_22 b9_0 b9_1 b9_2 b9_3 b9_4 sg =
  (ob (dUn .not t10) fun d1 =>
  oif d1
   (ob (R.r F_judge_judging_fails [(.undef, (.ptr t0i 0)), ((.int .i64 6), .val)] sg) fun q2 =>
   some ([(.agg [(.int .i64 0), (.int .i64 0), (.list 3 []), (.int .i64 0), (.int .i64 0), (.int .i64 0), (.str ⟨#[]⟩), (.str ⟨#[]⟩), (.int .i64 0), (.str ⟨#[]⟩), (.int .i64 0), (.int .i64 0), (.bool false), (.list 1 []), (.int .i64 0), (.int .i64 0), (.list 3 []), (.int .i64 0), (.int .i64 0), (.list 3 []), (.list 3 []), (.list 7 []), (.list 20 [])])], q2.2))
   (ob (R.r F_judge_judging_choices [(.undef, (.ptr t0i 0)), ((.agg [(proj 0 b5), (proj 1 b5), (proj 2 b5), (proj 3 b5), (proj 4 b5), (proj 5 b5), (proj 6 b5), (proj 7 b5), (proj 8 b5), (proj 9 b5), (proj 10 b5), (proj 11 b5), (proj 12 b5), (proj 13 b5), (proj 14 b5), (proj 15 b5)]), .val), ((.agg [(proj 0 b6), (proj 1 b6), (proj 2 b6)]), .val), ((.agg [b9_0, b9_1, b9_2, b9_3, b9_4]), .val)] sg) fun q3 =>
   ob (dBin .neq (q3.1.getD 0 .undef) (.int .i64 0)) fun d4 =>
   oif d4
    (ob (R.r F_judge_judging_fails [(.undef, (.ptr t0i 0)), ((q3.1.getD 0 .undef), .val)] q3.2) fun q5 =>
    some ([(.agg [(.int .i64 0), (.int .i64 0), (.list 3 []), (.int .i64 0), (.int .i64 0), (.int .i64 0), (.str ⟨#[]⟩), (.str ⟨#[]⟩), (.int .i64 0), (.str ⟨#[]⟩), (.int .i64 0), (.int .i64 0), (.bool false), (.list 1 []), (.int .i64 0), (.int .i64 0), (.list 3 []), (.int .i64 0), (.int .i64 0), (.list 3 []), (.list 3 []), (.list 7 []), (.list 20 [])])], q5.2))
    (ob (dBin .eql (proj 0 b5) (.int .i64 1)) fun d6 =>
    oif d6
     (ob (R.r F_judge_judging_name [(.undef, (.ptr t0i 0)), ((.agg [(proj 0 b5), (proj 1 b5), (proj 2 b5), (proj 3 b5), (proj 4 b5), (proj 5 b5), (proj 6 b5), (proj 7 b5), (proj 8 b5), (proj 9 b5), (proj 10 b5), (proj 11 b5), (proj 12 b5), (proj 13 b5), (proj 14 b5), (proj 15 b5)]), .val), ((.agg [(proj 0 b6), (proj 1 b6), (proj 2 b6)]), .val), ((.agg [b9_0, b9_1, b9_2, b9_3, b9_4]), .val)] q3.2) fun q7 =>
     og (isAggN 23 (q7.1.getD 0 .undef)) <|
     some ([(.agg [(proj 0 (q7.1.getD 0 .undef)), (proj 1 (q7.1.getD 0 .undef)), (proj 2 (q7.1.getD 0 .undef)), (proj 3 (q7.1.getD 0 .undef)), (proj 4 (q7.1.getD 0 .undef)), (proj 5 (q7.1.getD 0 .undef)), (proj 6 (q7.1.getD 0 .undef)), (proj 7 (q7.1.getD 0 .undef)), (proj 8 (q7.1.getD 0 .undef)), (proj 9 (q7.1.getD 0 .undef)), (proj 10 (q7.1.getD 0 .undef)), (proj 11 (q7.1.getD 0 .undef)), (proj 12 (q7.1.getD 0 .undef)), (proj 13 (q7.1.getD 0 .undef)), (proj 14 (q7.1.getD 0 .undef)), (proj 15 (q7.1.getD 0 .undef)), (proj 16 (q7.1.getD 0 .undef)), (proj 17 (q7.1.getD 0 .undef)), (proj 18 (q7.1.getD 0 .undef)), (proj 19 (q7.1.getD 0 .undef)), (proj 20 (q7.1.getD 0 .undef)), (proj 21 (q7.1.getD 0 .undef)), (proj 22 (q7.1.getD 0 .undef))])], q7.2))
     (ob (dBin .eql (proj 0 b5) (.int .i64 2)) fun d8 =>
     oif d8
      (og (isCell (proj 5 b5)) <|
      some ([(.agg [(.int .i64 1), (.int .i64 0), (.list 3 []), (.int .i64 2), (.int .i64 0), (.int .i64 0), (.str ⟨#[]⟩), (.str ⟨#[]⟩), (proj 5 b5), (.str ⟨#[]⟩), (.int .i64 0), (.int .i64 0), (.bool false), (.list 1 []), (.int .i64 0), (.int .i64 0), (.list 3 []), (.int .i64 0), (.int .i64 0), (.list 3 []), (.list 3 []), (.list 7 []), (.list 20 [])])], q3.2))
      (ob (dBin .eql (proj 0 b5) (.int .i64 3)) fun d9 =>
      oif d9
       (og (isCell (proj 5 b5)) <|
       some ([(.agg [(.int .i64 2), (.int .i64 0), (.list 3 []), (.int .i64 3), (.int .i64 0), (.int .i64 0), (.str ⟨#[]⟩), (.str ⟨#[]⟩), (proj 5 b5), (.str ⟨#[]⟩), (.int .i64 0), (.int .i64 0), (.bool false), (.list 1 []), (.int .i64 0), (.int .i64 0), (.list 3 []), (.int .i64 0), (.int .i64 0), (.list 3 []), (.list 3 []), (.list 7 []), (.list 20 [])])], q3.2))
       (ob (dBin .eql (proj 0 b5) (.int .i64 4)) fun d10 =>
       oif d10
        (og (isCell (proj 6 b5)) <|
        some ([(.agg [(.int .i64 3), (.int .i64 0), (.list 3 []), (.int .i64 4), (.int .i64 0), (.int .i64 0), (.str ⟨#[]⟩), (.str ⟨#[]⟩), (.int .i64 0), (proj 6 b5), (.int .i64 0), (.int .i64 0), (.bool false), (.list 1 []), (.int .i64 0), (.int .i64 0), (.list 3 []), (.int .i64 0), (.int .i64 0), (.list 3 []), (.list 3 []), (.list 7 []), (.list 20 [])])], q3.2))
        (ob (dBin .eql (proj 0 b5) (.int .i64 5)) fun d11 =>
        oif d11
         (some ([(.agg [(.int .i64 4), (.int .i64 0), (.list 3 []), (.int .i64 5), (.int .i64 0), (.int .i64 0), (.str ⟨#[]⟩), (.str ⟨#[]⟩), (.int .i64 0), (.str ⟨#[]⟩), (.int .i64 0), (.int .i64 0), (.bool false), (.list 1 []), (.int .i64 0), (.int .i64 0), (.list 3 []), (.int .i64 0), (.int .i64 0), (.list 3 []), (.list 3 []), (.list 7 []), (.list 20 [])])], q3.2))
         (ob (dBin .eql (proj 0 b5) (.int .i64 6)) fun d12 =>
         oif d12
          (ob (R.r F_judge_judging_kid [(.undef, (.ptr t0i 0)), ((.agg [(proj 0 b5), (proj 1 b5), (proj 2 b5), (proj 3 b5), (proj 4 b5), (proj 5 b5), (proj 6 b5), (proj 7 b5), (proj 8 b5), (proj 9 b5), (proj 10 b5), (proj 11 b5), (proj 12 b5), (proj 13 b5), (proj 14 b5), (proj 15 b5)]), .val), ((.agg [(proj 0 b6), (proj 1 b6), (proj 2 b6)]), .val), ((.int .i64 0), .val), (t3, .val)] q3.2) fun q13 =>
          og (isAggN 23 (q13.1.getD 0 .undef)) <|
          ob (R.r F_judge_judging_kid [(.undef, (.ptr t0i 0)), ((.agg [(proj 0 b5), (proj 1 b5), (proj 2 b5), (proj 3 b5), (proj 4 b5), (proj 5 b5), (proj 6 b5), (proj 7 b5), (proj 8 b5), (proj 9 b5), (proj 10 b5), (proj 11 b5), (proj 12 b5), (proj 13 b5), (proj 14 b5), (proj 15 b5)]), .val), ((.agg [(proj 0 b6), (proj 1 b6), (proj 2 b6)]), .val), ((.int .i64 1), .val), (t3, .val)] q13.2) fun q14 =>
          og (isAggN 23 (q14.1.getD 0 .undef)) <|
          some ([(.agg [(.int .i64 7), (.int .i64 0), (.list 3 [(.agg [(proj 0 (q13.1.getD 0 .undef)), (proj 1 (q13.1.getD 0 .undef)), (proj 2 (q13.1.getD 0 .undef))]), (.agg [(proj 0 (q14.1.getD 0 .undef)), (proj 1 (q14.1.getD 0 .undef)), (proj 2 (q14.1.getD 0 .undef))])]), (.int .i64 6), (.int .i64 0), (.int .i64 0), (.str ⟨#[]⟩), (.str ⟨#[]⟩), (.int .i64 0), (.str ⟨#[]⟩), (.int .i64 0), (.int .i64 0), (.bool false), (.list 1 []), (.int .i64 0), (.int .i64 0), (.list 3 []), (.int .i64 0), (.int .i64 0), (.list 3 []), (.list 3 []), (.list 7 []), (.list 20 [(.agg [(proj 3 (q13.1.getD 0 .undef)), (proj 4 (q13.1.getD 0 .undef)), (proj 5 (q13.1.getD 0 .undef)), (proj 6 (q13.1.getD 0 .undef)), (proj 7 (q13.1.getD 0 .undef)), (proj 8 (q13.1.getD 0 .undef)), (proj 9 (q13.1.getD 0 .undef)), (proj 10 (q13.1.getD 0 .undef)), (proj 11 (q13.1.getD 0 .undef)), (proj 12 (q13.1.getD 0 .undef)), (proj 13 (q13.1.getD 0 .undef)), (proj 14 (q13.1.getD 0 .undef)), (proj 15 (q13.1.getD 0 .undef)), (proj 16 (q13.1.getD 0 .undef)), (proj 17 (q13.1.getD 0 .undef)), (proj 18 (q13.1.getD 0 .undef)), (proj 19 (q13.1.getD 0 .undef)), (proj 20 (q13.1.getD 0 .undef)), (proj 21 (q13.1.getD 0 .undef)), (proj 22 (q13.1.getD 0 .undef))]), (.agg [(proj 3 (q14.1.getD 0 .undef)), (proj 4 (q14.1.getD 0 .undef)), (proj 5 (q14.1.getD 0 .undef)), (proj 6 (q14.1.getD 0 .undef)), (proj 7 (q14.1.getD 0 .undef)), (proj 8 (q14.1.getD 0 .undef)), (proj 9 (q14.1.getD 0 .undef)), (proj 10 (q14.1.getD 0 .undef)), (proj 11 (q14.1.getD 0 .undef)), (proj 12 (q14.1.getD 0 .undef)), (proj 13 (q14.1.getD 0 .undef)), (proj 14 (q14.1.getD 0 .undef)), (proj 15 (q14.1.getD 0 .undef)), (proj 16 (q14.1.getD 0 .undef)), (proj 17 (q14.1.getD 0 .undef)), (proj 18 (q14.1.getD 0 .undef)), (proj 19 (q14.1.getD 0 .undef)), (proj 20 (q14.1.getD 0 .undef)), (proj 21 (q14.1.getD 0 .undef)), (proj 22 (q14.1.getD 0 .undef))])])])], q14.2))
          (P_judge_judging_expr_26 R t0i t3 (proj 0 b5) b5 b6 b8_0 b8_1 b8_2 b8_3 b8_4 b8_5 b8_6 b8_7 b8_8 b8_9 b8_10 b8_11 b8_12 b8_13 b8_14 b8_15 b8_16 b8_17 b8_18 b8_19 b8_20 b8_21 b8_22 q3.2))))))))) := evP_of [4, 26] (by kernel_rfl)
set_option maxRecDepth 100000 in
theorem eq_judge_judging_expr_26 (R : Orc) (t0i : Nat) (t3 : DV) (t47 : DV) (b5 : DV) (b6 : DV) (b8_0 : DV) (b8_1 : DV) (b8_2 : DV) (b8_3 : DV) (b8_4 : DV) (b8_5 : DV) (b8_6 : DV) (b8_7 : DV) (b8_8 : DV) (b8_9 : DV) (b8_10 : DV) (b8_11 : DV) (b8_12 : DV) (b8_13 : DV) (b8_14 : DV) (b8_15 : DV) (b8_16 : DV) (b8_17 : DV) (b8_18 : DV) (b8_19 : DV) (b8_20 : DV) (b8_21 : DV) (b8_22 : DV) (sg : List SObj) : P_judge_judging_expr_26 R t0i t3 t47 b5 b6 b8_0 b8_1 b8_2 b8_3 b8_4 b8_5 b8_6 b8_7 b8_8 b8_9 b8_10 b8_11 b8_12 b8_13 b8_14 b8_15 b8_16 b8_17 b8_18 b8_19 b8_20 b8_21 b8_22 sg =
  (ob (dBin .eql t47 (.int .i64 7)) fun d1 =>
  oif d1
   (ob (dIdx 3 (proj 0 b6) (.int .i64 0)) fun d2 =>
   ob (R.p F_judge_list [(.agg [(proj 0 d2), (proj 1 d2), (proj 2 d2)])]) fun d3 =>
   ob (dIdx 3 (proj 0 b6) (.int .i64 0)) fun d4 =>
   og (isAggN 3 d3) <|
   some ([(.agg [(proj 0 d3), (proj 1 d3), (proj 2 d3), (.int .i64 7), (.int .i64 0), (.int .i64 0), (.str ⟨#[]⟩), (.str ⟨#[]⟩), (.int .i64 0), (.str ⟨#[]⟩), (.int .i64 0), (.int .i64 0), (.bool false), (.list 1 []), (proj 0 d4), (proj 1 d4), (proj 2 d4), (.int .i64 0), (.int .i64 0), (.list 3 []), (.list 3 []), (.list 7 []), (.list 20 [])])], sg))
   (ob (dBin .eql t47 (.int .i64 8)) fun d5 =>
   oif d5
    (ob (dIdx 3 (proj 0 b6) (.int .i64 0)) fun d6 =>
    ob (R.p F_judge_list [(.agg [(proj 0 d6), (proj 1 d6), (proj 2 d6)])]) fun d7 =>
    og (isAggN 3 d7) <|
    ob (dIdx 3 (proj 0 b6) (.int .i64 0)) fun d8 =>
    ob (R.r F_judge_judging_fits [(.undef, (.ptr t0i 0)), ((.agg [(proj 0 b5), (proj 1 b5), (proj 2 b5), (proj 3 b5), (proj 4 b5), (proj 5 b5), (proj 6 b5), (proj 7 b5), (proj 8 b5), (proj 9 b5), (proj 10 b5), (proj 11 b5), (proj 12 b5), (proj 13 b5), (proj 14 b5), (proj 15 b5)]), .val), ((.agg [(proj 0 b6), (proj 1 b6), (proj 2 b6)]), .val), ((.int .i64 0), .val), (t3, .val), ((.agg [(proj 0 d8), (proj 1 d8), (proj 2 d8)]), .val)] sg) fun q9 =>
    og (isAggN 20 (q9.1.getD 0 .undef)) <|
    ob (R.r F_judge_judging_fits [(.undef, (.ptr t0i 0)), ((.agg [(proj 0 b5), (proj 1 b5), (proj 2 b5), (proj 3 b5), (proj 4 b5), (proj 5 b5), (proj 6 b5), (proj 7 b5), (proj 8 b5), (proj 9 b5), (proj 10 b5), (proj 11 b5), (proj 12 b5), (proj 13 b5), (proj 14 b5), (proj 15 b5)]), .val), ((.agg [(proj 0 b6), (proj 1 b6), (proj 2 b6)]), .val), ((.int .i64 1), .val), (t3, .val), ((.agg [(proj 0 d7), (proj 1 d7), (proj 2 d7)]), .val)] q9.2) fun q10 =>
    og (isAggN 20 (q10.1.getD 0 .undef)) <|
    some ([(.agg [(proj 0 d7), (proj 1 d7), (proj 2 d7), (.int .i64 8), (.int .i64 0), (.int .i64 0), (.str ⟨#[]⟩), (.str ⟨#[]⟩), (.int .i64 0), (.str ⟨#[]⟩), (.int .i64 0), (.int .i64 0), (.bool false), (.list 1 []), (.int .i64 0), (.int .i64 0), (.list 3 []), (.int .i64 0), (.int .i64 0), (.list 3 []), (.list 3 []), (.list 7 []), (.list 20 [(.agg [(proj 0 (q9.1.getD 0 .undef)), (proj 1 (q9.1.getD 0 .undef)), (proj 2 (q9.1.getD 0 .undef)), (proj 3 (q9.1.getD 0 .undef)), (proj 4 (q9.1.getD 0 .undef)), (proj 5 (q9.1.getD 0 .undef)), (proj 6 (q9.1.getD 0 .undef)), (proj 7 (q9.1.getD 0 .undef)), (proj 8 (q9.1.getD 0 .undef)), (proj 9 (q9.1.getD 0 .undef)), (proj 10 (q9.1.getD 0 .undef)), (proj 11 (q9.1.getD 0 .undef)), (proj 12 (q9.1.getD 0 .undef)), (proj 13 (q9.1.getD 0 .undef)), (proj 14 (q9.1.getD 0 .undef)), (proj 15 (q9.1.getD 0 .undef)), (proj 16 (q9.1.getD 0 .undef)), (proj 17 (q9.1.getD 0 .undef)), (proj 18 (q9.1.getD 0 .undef)), (proj 19 (q9.1.getD 0 .undef))]), (.agg [(proj 0 (q10.1.getD 0 .undef)), (proj 1 (q10.1.getD 0 .undef)), (proj 2 (q10.1.getD 0 .undef)), (proj 3 (q10.1.getD 0 .undef)), (proj 4 (q10.1.getD 0 .undef)), (proj 5 (q10.1.getD 0 .undef)), (proj 6 (q10.1.getD 0 .undef)), (proj 7 (q10.1.getD 0 .undef)), (proj 8 (q10.1.getD 0 .undef)), (proj 9 (q10.1.getD 0 .undef)), (proj 10 (q10.1.getD 0 .undef)), (proj 11 (q10.1.getD 0 .undef)), (proj 12 (q10.1.getD 0 .undef)), (proj 13 (q10.1.getD 0 .undef)), (proj 14 (q10.1.getD 0 .undef)), (proj 15 (q10.1.getD 0 .undef)), (proj 16 (q10.1.getD 0 .undef)), (proj 17 (q10.1.getD 0 .undef)), (proj 18 (q10.1.getD 0 .undef)), (proj 19 (q10.1.getD 0 .undef))])])])], q10.2))
    (ob (dBin .eql t47 (.int .i64 9)) fun d11 =>
    oif d11
     (ob (R.p F_judge_one [(.agg [(proj 8 b5), (proj 9 b5), (proj 10 b5)]), (proj 0 b6)]) fun d12 =>
     og (isAggN 3 d12) <|
     og (isCell (proj 3 b5)) <|
     ob (R.r F_judge_with [(t3, .val), ((.list 5 [(.agg [(proj 3 b5), (proj 0 d12), (proj 1 d12), (proj 2 d12), (.list 1 [])])]), .val)] sg) fun q13 =>
     ob (R.r F_judge_judging_kid [(.undef, (.ptr t0i 0)), ((.agg [(proj 0 b5), (proj 1 b5), (proj 2 b5), (proj 3 b5), (proj 4 b5), (proj 5 b5), (proj 6 b5), (proj 7 b5), (proj 8 b5), (proj 9 b5), (proj 10 b5), (proj 11 b5), (proj 12 b5), (proj 13 b5), (proj 14 b5), (proj 15 b5)]), .val), ((.agg [(proj 0 b6), (proj 1 b6), (proj 2 b6)]), .val), ((.int .i64 0), .val), ((q13.1.getD 0 .undef), .val)] q13.2) fun q14 =>
     og (isAggN 23 (q14.1.getD 0 .undef)) <|
     ob (R.p F_judge_fun [(.agg [(proj 0 d12), (proj 1 d12), (proj 2 d12)]), (.agg [(proj 0 (q14.1.getD 0 .undef)), (proj 1 (q14.1.getD 0 .undef)), (proj 2 (q14.1.getD 0 .undef))])]) fun d15 =>
     og (isCell (proj 3 b5)) <|
     og (isAggN 3 d15) <|
     some ([(.agg [(proj 0 d15), (proj 1 d15), (proj 2 d15), (.int .i64 9), (.int .i64 0), (.int .i64 0), (proj 3 b5), (.str ⟨#[]⟩), (.int .i64 0), (.str ⟨#[]⟩), (.int .i64 0), (.int .i64 0), (.bool false), (.list 1 []), (proj 0 d12), (proj 1 d12), (proj 2 d12), (.int .i64 0), (.int .i64 0), (.list 3 []), (.list 3 []), (.list 7 []), (.list 20 [(.agg [(proj 3 (q14.1.getD 0 .undef)), (proj 4 (q14.1.getD 0 .undef)), (proj 5 (q14.1.getD 0 .undef)), (proj 6 (q14.1.getD 0 .undef)), (proj 7 (q14.1.getD 0 .undef)), (proj 8 (q14.1.getD 0 .undef)), (proj 9 (q14.1.getD 0 .undef)), (proj 10 (q14.1.getD 0 .undef)), (proj 11 (q14.1.getD 0 .undef)), (proj 12 (q14.1.getD 0 .undef)), (proj 13 (q14.1.getD 0 .undef)), (proj 14 (q14.1.getD 0 .undef)), (proj 15 (q14.1.getD 0 .undef)), (proj 16 (q14.1.getD 0 .undef)), (proj 17 (q14.1.getD 0 .undef)), (proj 18 (q14.1.getD 0 .undef)), (proj 19 (q14.1.getD 0 .undef)), (proj 20 (q14.1.getD 0 .undef)), (proj 21 (q14.1.getD 0 .undef)), (proj 22 (q14.1.getD 0 .undef))])])])], q14.2))
     (ob (R.r F_judge_judging_more [(.undef, (.ptr t0i 0)), ((.agg [(proj 0 b5), (proj 1 b5), (proj 2 b5), (proj 3 b5), (proj 4 b5), (proj 5 b5), (proj 6 b5), (proj 7 b5), (proj 8 b5), (proj 9 b5), (proj 10 b5), (proj 11 b5), (proj 12 b5), (proj 13 b5), (proj 14 b5), (proj 15 b5)]), .val), ((.agg [(proj 0 b6), (proj 1 b6), (proj 2 b6)]), .val), (t3, .val)] sg) fun q16 =>
     og (isAggN 23 (q16.1.getD 0 .undef)) <|
     some ([(.agg [(proj 0 (q16.1.getD 0 .undef)), (proj 1 (q16.1.getD 0 .undef)), (proj 2 (q16.1.getD 0 .undef)), (proj 3 (q16.1.getD 0 .undef)), (proj 4 (q16.1.getD 0 .undef)), (proj 5 (q16.1.getD 0 .undef)), (proj 6 (q16.1.getD 0 .undef)), (proj 7 (q16.1.getD 0 .undef)), (proj 8 (q16.1.getD 0 .undef)), (proj 9 (q16.1.getD 0 .undef)), (proj 10 (q16.1.getD 0 .undef)), (proj 11 (q16.1.getD 0 .undef)), (proj 12 (q16.1.getD 0 .undef)), (proj 13 (q16.1.getD 0 .undef)), (proj 14 (q16.1.getD 0 .undef)), (proj 15 (q16.1.getD 0 .undef)), (proj 16 (q16.1.getD 0 .undef)), (proj 17 (q16.1.getD 0 .undef)), (proj 18 (q16.1.getD 0 .undef)), (proj 19 (q16.1.getD 0 .undef)), (proj 20 (q16.1.getD 0 .undef)), (proj 21 (q16.1.getD 0 .undef)), (proj 22 (q16.1.getD 0 .undef))])], q16.2))))) := evP_of [4, 26] (by kernel_rfl)
theorem fix_judge_judging_expr (x0 : Nat) (x1 : DV) (x2 : DV) (x3 : DV) (sg : List SObj) : (run cfg).r F_judge_judging_expr [(.undef, (.ptr x0 0)), (x1, .val), (x2, .val), (x3, .val)] sg = P_judge_judging_expr (run cfg) x0 x1 x2 x3 sg :=
  (fix_raw (C := cfg) (f := F_judge_judging_expr) (s := sig_judge_judging_expr) (fn := Try.f152) (c := code_judge_judging_expr) (by kernel_rfl) Try.func152 (by kernel_rfl)).trans (by kernel_rfl)
theorem call_judge_judging_expr (x0 : Nat) (x1 : DV) (x2 : DV) (x3 : DV) (sg : List SObj) {q : List DV × List SObj} (h : P_judge_judging_expr (run cfg) x0 x1 x2 x3 sg = some q) : (run cfg).r F_judge_judging_expr [(.undef, (.ptr x0 0)), (x1, .val), (x2, .val), (x3, .val)] sg = some q := (fix_judge_judging_expr x0 x1 x2 x3 sg).trans h

/-! ### judge_judging_ok -/
noncomputable def code_judge_judging_ok : Code := Try.f153.body.getD .skip
noncomputable def P_judge_judging_ok (R : Orc) (x0 : Nat) (sg : List SObj) : Option (List DV × List SObj) := evP cfg R fl_judge_judging_ok (retR cfg.P Try.f153 sig_judge_judging_ok) [] code_judge_judging_ok (initSt Try.f153 [(.undef, (.ptr x0 0))] sg)
theorem eq_judge_judging_ok (R : Orc) (x0 : Nat) (sg : List SObj) : P_judge_judging_ok R x0 sg =
  (ob (sgBox sg x0) fun c1 =>
  ob (cellDat c1 3) fun d2 =>
  ob (dBin .eql d2 (.int .i64 0)) fun d3 =>
  some ([d3], sg)) := evP_of [] (by kernel_rfl)
theorem fix_judge_judging_ok (x0 : Nat) (sg : List SObj) : (run cfg).r F_judge_judging_ok [(.undef, (.ptr x0 0))] sg = P_judge_judging_ok (run cfg) x0 sg :=
  (fix_raw (C := cfg) (f := F_judge_judging_ok) (s := sig_judge_judging_ok) (fn := Try.f153) (c := code_judge_judging_ok) (by kernel_rfl) Try.func153 (by kernel_rfl)).trans (by kernel_rfl)
theorem call_judge_judging_ok (x0 : Nat) (sg : List SObj) {q : List DV × List SObj} (h : P_judge_judging_ok (run cfg) x0 sg = some q) : (run cfg).r F_judge_judging_ok [(.undef, (.ptr x0 0))] sg = some q := (fix_judge_judging_ok x0 sg).trans h

/-! ### word_Key -/
noncomputable def code_word_Key : Code := Try.f154.body.getD .skip
noncomputable def P_word_Key (R : Orc) (x0 : DV) : Option DV := evP cfg R fl_word_Key (retP cfg.P Try.f154) [] code_word_Key (initSt Try.f154 [(x0, .val)] [])
theorem eq_word_Key (R : Orc) (x0 : DV) : P_word_Key R x0 =
  (ob (dBin .eql x0 (.str ⟨#[108, 101, 116]⟩)) fun d1 =>
  oif d1
   (some (.bool true))
   (ob (dBin .eql x0 (.str ⟨#[114, 101, 99]⟩)) fun d2 =>
   oif d2
    (some (.bool true))
    (ob (dBin .eql x0 (.str ⟨#[105, 110]⟩)) fun d3 =>
    oif d3
     (some (.bool true))
     (ob (dBin .eql x0 (.str ⟨#[102, 117, 110]⟩)) fun d4 =>
     oif d4
      (some (.bool true))
      (ob (dBin .eql x0 (.str ⟨#[105, 102]⟩)) fun d5 =>
      oif d5
       (some (.bool true))
       (ob (dBin .eql x0 (.str ⟨#[116, 104, 101, 110]⟩)) fun d6 =>
       oif d6
        (some (.bool true))
        (ob (dBin .eql x0 (.str ⟨#[101, 108, 115, 101]⟩)) fun d7 =>
        oif d7
         (some (.bool true))
         (ob (dBin .eql x0 (.str ⟨#[109, 97, 116, 99, 104]⟩)) fun d8 =>
         oif d8
          (some (.bool true))
          (ob (dBin .eql x0 (.str ⟨#[119, 105, 116, 104]⟩)) fun d9 =>
          oif d9
           (some (.bool true))
           (ob (dBin .eql x0 (.str ⟨#[101, 110, 100]⟩)) fun d10 =>
           oif d10
            (some (.bool true))
            (ob (dBin .eql x0 (.str ⟨#[116, 114, 117, 101]⟩)) fun d11 =>
            oif d11
             (some (.bool true))
             (ob (dBin .eql x0 (.str ⟨#[102, 97, 108, 115, 101]⟩)) fun d12 =>
             oif d12
              (some (.bool true))
              (ob (dBin .eql x0 (.str ⟨#[105, 110, 116]⟩)) fun d13 =>
              oif d13
               (some (.bool true))
               (ob (dBin .eql x0 (.str ⟨#[98, 111, 111, 108]⟩)) fun d14 =>
               oif d14
                (some (.bool true))
                (ob (dBin .eql x0 (.str ⟨#[115, 116, 114, 105, 110, 103]⟩)) fun d15 =>
                oif d15
                 (some (.bool true))
                 (ob (dBin .eql x0 (.str ⟨#[117, 110, 105, 116]⟩)) fun d16 =>
                 oif d16
                  (some (.bool true))
                  (ob (dBin .eql x0 (.str ⟨#[108, 105, 115, 116]⟩)) fun d17 =>
                  oif d17
                   (some (.bool true))
                   (some (.bool false))))))))))))))))))) := evP_of [] (by kernel_rfl)
theorem fix_word_Key (x0 : DV) : (run cfg).p F_word_Key [x0] = P_word_Key (run cfg) x0 :=
  (fix_pure (C := cfg) (f := F_word_Key) (fn := Try.f154) (c := code_word_Key) (by kernel_rfl) Try.func154 (by kernel_rfl)).trans (by kernel_rfl)
theorem call_word_Key (x0 : DV) {d : DV} (h : P_word_Key (run cfg) x0 = some d) : (run cfg).p F_word_Key [x0] = some d := (fix_word_Key x0).trans h

/-! ### word_inner -/
noncomputable def code_word_inner : Code := Try.f155.body.getD .skip
noncomputable def P_word_inner (R : Orc) (x0 : DV) : Option DV := evP cfg R fl_word_inner (retP cfg.P Try.f155) [] code_word_inner (initSt Try.f155 [(x0, .val)] [])
set_option maxRecDepth 100000 in
theorem eq_word_inner (R : Orc) (x0 : DV) : P_word_inner R x0 =
  (ob (dBin .geq x0 (.int .u8 97)) fun d1 =>
  ogd d1
   (ob (dBin .leq x0 (.int .u8 122)) fun d2 =>
   ogd d2
    (some (.bool true))
    (ob (dBin .geq x0 (.int .u8 65)) fun d3 =>
    ogd d3
     (ob (dBin .leq x0 (.int .u8 90)) fun d4 =>
     ogd d4
      (some (.bool true))
      (ob (dBin .geq x0 (.int .u8 48)) fun d5 =>
      ogd d5
       (ob (dBin .leq x0 (.int .u8 57)) fun d6 =>
       ogd d6
        (some (.bool true))
        (ob (dBin .eql x0 (.int .u8 95)) fun d7 =>
        ogd d7
         (some (.bool true))
         (ob (dBin .eql x0 (.int .u8 39)) fun d8 =>
         some d8)
         none)
        none)
       (ob (dBin .eql x0 (.int .u8 95)) fun d9 =>
       ogd d9
        (some (.bool true))
        (ob (dBin .eql x0 (.int .u8 39)) fun d10 =>
        some d10)
        none)
       none)
      none)
     (ob (dBin .geq x0 (.int .u8 48)) fun d11 =>
     ogd d11
      (ob (dBin .leq x0 (.int .u8 57)) fun d12 =>
      ogd d12
       (some (.bool true))
       (ob (dBin .eql x0 (.int .u8 95)) fun d13 =>
       ogd d13
        (some (.bool true))
        (ob (dBin .eql x0 (.int .u8 39)) fun d14 =>
        some d14)
        none)
       none)
      (ob (dBin .eql x0 (.int .u8 95)) fun d15 =>
      ogd d15
       (some (.bool true))
       (ob (dBin .eql x0 (.int .u8 39)) fun d16 =>
       some d16)
       none)
      none)
     none)
    none)
   (ob (dBin .geq x0 (.int .u8 65)) fun d17 =>
   ogd d17
    (ob (dBin .leq x0 (.int .u8 90)) fun d18 =>
    ogd d18
     (some (.bool true))
     (ob (dBin .geq x0 (.int .u8 48)) fun d19 =>
     ogd d19
      (ob (dBin .leq x0 (.int .u8 57)) fun d20 =>
      ogd d20
       (some (.bool true))
       (ob (dBin .eql x0 (.int .u8 95)) fun d21 =>
       ogd d21
        (some (.bool true))
        (ob (dBin .eql x0 (.int .u8 39)) fun d22 =>
        some d22)
        none)
       none)
      (ob (dBin .eql x0 (.int .u8 95)) fun d23 =>
      ogd d23
       (some (.bool true))
       (ob (dBin .eql x0 (.int .u8 39)) fun d24 =>
       some d24)
       none)
      none)
     none)
    (ob (dBin .geq x0 (.int .u8 48)) fun d25 =>
    ogd d25
     (ob (dBin .leq x0 (.int .u8 57)) fun d26 =>
     ogd d26
      (some (.bool true))
      (ob (dBin .eql x0 (.int .u8 95)) fun d27 =>
      ogd d27
       (some (.bool true))
       (ob (dBin .eql x0 (.int .u8 39)) fun d28 =>
       some d28)
       none)
      none)
     (ob (dBin .eql x0 (.int .u8 95)) fun d29 =>
     ogd d29
      (some (.bool true))
      (ob (dBin .eql x0 (.int .u8 39)) fun d30 =>
      some d30)
      none)
     none)
    none)
   none) := evP_of [] (by kernel_rfl)
theorem fix_word_inner (x0 : DV) : (run cfg).p F_word_inner [x0] = P_word_inner (run cfg) x0 :=
  (fix_pure (C := cfg) (f := F_word_inner) (fn := Try.f155) (c := code_word_inner) (by kernel_rfl) Try.func155 (by kernel_rfl)).trans (by kernel_rfl)
theorem call_word_inner (x0 : DV) {d : DV} (h : P_word_inner (run cfg) x0 = some d) : (run cfg).p F_word_inner [x0] = some d := (fix_word_inner x0).trans h

/-! ### typ_Closed -/
noncomputable def code_typ_Closed : Code := Try.f156.body.getD .skip
noncomputable def P_typ_Closed (R : Orc) (x0 : DV) : Option DV := evP cfg R fl_typ_Closed (retP cfg.P Try.f156) [] code_typ_Closed (initSt Try.f156 [(x0, .val)] [])
theorem eq_typ_Closed (R : Orc) (x0 : DV) : P_typ_Closed R x0 =
  (og (isAggN 3 x0) <|
  ob (R.p F_typ_without [(.agg [(proj 0 x0), (proj 1 x0), (proj 2 x0)]), (.int .i64 6)]) fun d1 =>
  some d1) := evP_of [] (by kernel_rfl)
theorem fix_typ_Closed (x0 : DV) : (run cfg).p F_typ_Closed [x0] = P_typ_Closed (run cfg) x0 :=
  (fix_pure (C := cfg) (f := F_typ_Closed) (fn := Try.f156) (c := code_typ_Closed) (by kernel_rfl) Try.func156 (by kernel_rfl)).trans (by kernel_rfl)
theorem call_typ_Closed (x0 : DV) {d : DV} (h : P_typ_Closed (run cfg) x0 = some d) : (run cfg).p F_typ_Closed [x0] = some d := (fix_typ_Closed x0).trans h

/-! ### typ_vars -/
noncomputable def code_typ_vars : Code := Try.f177.body.getD .skip
noncomputable def P_typ_vars (R : Orc) (x0 : DV) (x1 : Nat) (x2 : DV) (sg : List SObj) : Option (List DV × List SObj) := evP cfg R fl_typ_vars (retR cfg.P Try.f177 sig_typ_vars) [] code_typ_vars (initSt Try.f177 [(x0, .val), (.undef, (.map x1)), (x2, .own)] sg)
noncomputable def P_typ_vars_5 (R : Orc) (t1i : Nat) (t2 : DV) (b3 : DV) (sg : List SObj) : Option (List DV × List SObj) := evP cfg R fl_typ_vars (retR cfg.P Try.f177 sig_typ_vars) [true, true] code_typ_vars ⟨spread .undef 40 0 [(2, t2)], spread .val 40 0 [(1, (.map t1i)), (2, .own), (3, (.loc 3 0))], spread none 40 0 [(3, some [((proj 0 b3), .val), ((proj 1 b3), .val), ((proj 2 b3), .val)])], sg⟩
noncomputable def P_typ_vars_6h (R : Orc) (t1i : Nat) (t2 : DV) (t28 : DV) (t29 : DV) (t30 : DV) (sg : List SObj) : Option (List DV × List SObj) := headP cfg R fl_typ_vars (retR cfg.P Try.f177 sig_typ_vars) [true, true, false, true, false] code_typ_vars ⟨spread .undef 40 0 [(2, t2), (28, t28), (29, t29), (30, t30)], spread .val 40 0 [(1, (.map t1i)), (2, .own)], spread none 40 0 [], sg⟩
theorem eq_typ_vars (R : Orc) (x0 : DV) (x1 : Nat) (x2 : DV) (sg : List SObj) : P_typ_vars R x0 x1 x2 sg =
  (og (isAggN 3 x0) <|
  ob (dBin .eql (proj 0 x0) (.int .i64 6)) fun d1 =>
  oif d1
   (og (isKey false (proj 1 x0) && true) <|
   ob (sgMap sg x1) fun m2 =>
   og (m2.1 == false) <|
   ob (dBin .eql ((mGet m2.2 (proj 1 x0)).getD (.int .i64 0)) (.int .i64 0)) fun d3 =>
   oif d3
    (og (isCell (proj 1 x0)) <|
    ob (dApp 1 x2 (.list 1 [(proj 1 x0)])) fun d4 =>
    og (isKey false (proj 1 x0) && true) <|
    ob (sgMap sg x1) fun m5 =>
    og (m5.1 == false) <|
    ob (dBin .add ((mGet m5.2 (proj 1 x0)).getD (.int .i64 0)) (.int .i64 1)) fun d6 =>
    og (isKey false (proj 1 x0) && true && true) <|
    ob (sgMap sg x1) fun m7 =>
    og (m7.1 == false) <|
    P_typ_vars_5 R x1 d4 x0 (sg.set x1 (.map false (mSet m7.2 (proj 1 x0) d6))))
    (og (isKey false (proj 1 x0) && true) <|
    ob (sgMap sg x1) fun m8 =>
    og (m8.1 == false) <|
    ob (dBin .add ((mGet m8.2 (proj 1 x0)).getD (.int .i64 0)) (.int .i64 1)) fun d9 =>
    og (isKey false (proj 1 x0) && true && true) <|
    ob (sgMap sg x1) fun m10 =>
    og (m10.1 == false) <|
    P_typ_vars_5 R x1 x2 x0 (sg.set x1 (.map false (mSet m10.2 (proj 1 x0) d9)))))
   (P_typ_vars_5 R x1 x2 x0 sg)) := evP_of [5] (by kernel_rfl)
theorem eq_typ_vars_5 (R : Orc) (t1i : Nat) (t2 : DV) (b3 : DV) (sg : List SObj) : P_typ_vars_5 R t1i t2 b3 sg =
  (ob (dLen (proj 2 b3)) fun d1 =>
  P_typ_vars_6h R t1i t2 (proj 2 b3) d1 (.int .i64 0) sg) := evP_of [5] (by kernel_rfl)
theorem eq_typ_vars_6h (R : Orc) (t1i : Nat) (t2 : DV) (t28 : DV) (t29 : DV) (t30 : DV) (sg : List SObj) : P_typ_vars_6h R t1i t2 t28 t29 t30 sg =
  (ob (dBin .lss t30 t29) fun d1 =>
  oif d1
   (ob (dIdx 3 t28 t30) fun d2 =>
   ob (R.r F_typ_vars [((.agg [(proj 0 d2), (proj 1 d2), (proj 2 d2)]), .val), (.undef, (.map t1i)), (t2, .own)] sg) fun q3 =>
   ob (dBin .add t30 (.int .i64 1)) fun d4 =>
   P_typ_vars_6h R t1i (q3.1.getD 0 .undef) t28 t29 d4 q3.2)
   (some ([t2], sg))) := headP_of [5] (by kernel_rfl)
theorem fix_typ_vars (x0 : DV) (x1 : Nat) (x2 : DV) (sg : List SObj) : (run cfg).r F_typ_vars [(x0, .val), (.undef, (.map x1)), (x2, .own)] sg = P_typ_vars (run cfg) x0 x1 x2 sg :=
  (fix_raw (C := cfg) (f := F_typ_vars) (s := sig_typ_vars) (fn := Try.f177) (c := code_typ_vars) (by kernel_rfl) Try.func177 (by kernel_rfl)).trans (by kernel_rfl)
theorem call_typ_vars (x0 : DV) (x1 : Nat) (x2 : DV) (sg : List SObj) {q : List DV × List SObj} (h : P_typ_vars (run cfg) x0 x1 x2 sg = some q) : (run cfg).r F_typ_vars [(x0, .val), (.undef, (.map x1)), (x2, .own)] sg = some q := (fix_typ_vars x0 x1 x2 sg).trans h

/-! ### slices_Contains__int_int -/
noncomputable def code_slices_Contains__int_int : Code := Try.f178.body.getD .skip
noncomputable def P_slices_Contains__int_int (R : Orc) (x0 : DV) (x1 : DV) : Option DV := evP cfg R fl_slices_Contains__int_int (retP cfg.P Try.f178) [] code_slices_Contains__int_int (initSt Try.f178 [(x0, .val), (x1, .val)] [])
theorem eq_slices_Contains__int_int (R : Orc) (x0 : DV) (x1 : DV) : P_slices_Contains__int_int R x0 x1 =
  (ob (R.p F_slices_Index__int_int [x0, x1]) fun d1 =>
  ob (dBin .geq d1 (.int .i64 0)) fun d2 =>
  some d2) := evP_of [] (by kernel_rfl)
theorem fix_slices_Contains__int_int (x0 : DV) (x1 : DV) : (run cfg).p F_slices_Contains__int_int [x0, x1] = P_slices_Contains__int_int (run cfg) x0 x1 :=
  (fix_pure (C := cfg) (f := F_slices_Contains__int_int) (fn := Try.f178) (c := code_slices_Contains__int_int) (by kernel_rfl) Try.func178 (by kernel_rfl)).trans (by kernel_rfl)
theorem call_slices_Contains__int_int (x0 : DV) (x1 : DV) {d : DV} (h : P_slices_Contains__int_int (run cfg) x0 x1 = some d) : (run cfg).p F_slices_Contains__int_int [x0, x1] = some d := (fix_slices_Contains__int_int x0 x1).trans h

/-! ### pats_bind -/
noncomputable def code_pats_bind : Code := Try.f179.body.getD .skip
noncomputable def P_pats_bind (R : Orc) (x0 : DV) (x1 : DV) (x2 : DV) (sg : List SObj) : Option (List DV × List SObj) := evP cfg R fl_pats_bind (retR cfg.P Try.f179 sig_pats_bind) [] code_pats_bind (initSt Try.f179 [(x0, .val), (x1, .val), (x2, .own)] sg)
noncomputable def P_pats_bind_16 (R : Orc) (t2 : DV) (t8 : DV) (b3 : DV) (sg : List SObj) : Option (List DV × List SObj) := evP cfg R fl_pats_bind (retR cfg.P Try.f179 sig_pats_bind) [true, true, true] code_pats_bind ⟨spread .undef 73 0 [(2, t2), (8, t8)], spread .val 73 0 [(2, .own), (3, (.loc 3 0))], spread none 73 0 [(3, some [((proj 0 b3), .val), ((proj 1 b3), .val), ((proj 2 b3), .val), ((proj 3 b3), .val), ((proj 4 b3), .val), ((proj 5 b3), .val), ((proj 6 b3), .val)])], sg⟩
noncomputable def P_pats_bind_17h (R : Orc) (t2 : DV) (t8 : DV) (t52 : DV) (t53 : DV) (t54 : DV) (sg : List SObj) : Option (List DV × List SObj) := headP cfg R fl_pats_bind (retR cfg.P Try.f179 sig_pats_bind) [true, true, true, false, true, false] code_pats_bind ⟨spread .undef 73 0 [(2, t2), (8, t8), (52, t52), (53, t53), (54, t54)], spread .val 73 0 [(2, .own)], spread none 73 0 [], sg⟩
theorem eq_pats_bind (R : Orc) (x0 : DV) (x1 : DV) (x2 : DV) (sg : List SObj) : P_pats_bind R x0 x1 x2 sg =
  (og (isAggN 7 x0) <|
  og (isAggN 3 x1) <|
  ob (dBin .eql (proj 0 x0) (.int .i64 1)) fun d1 =>
  oif d1
   (some ([x2, (.bool true)], sg))
   (ob (dBin .eql (proj 0 x0) (.int .i64 2)) fun d2 =>
   oif d2
    (og (isCell (proj 3 x0)) <|
    ob (dApp 4 x2 (.list 4 [(.agg [(proj 3 x0), (proj 0 x1), (proj 1 x1), (proj 2 x1)])])) fun d3 =>
    some ([d3, (.bool true)], sg))
    (ob (dBin .eql (proj 0 x0) (.int .i64 7)) fun d4 =>
    oif d4
     (ob (dBin .neq (proj 0 x1) (.int .i64 7)) fun d5 =>
     oif d5
      (some ([(.list 4 []), (.bool false)], sg))
      (P_pats_bind_16 R x2 (proj 2 x1) x0 sg))
     (ob (dBin .eql (proj 0 x0) (.int .i64 9)) fun d6 =>
     oif d6
      (ob (dBin .neq (proj 0 x1) (.int .i64 8)) fun d7 =>
      oif d7
       (some ([(.list 4 []), (.bool false)], sg))
       (ob (dIdx 3 (proj 2 x1) (.int .i64 0)) fun d8 =>
       P_pats_bind_16 R x2 (.list 3 [(.agg [(proj 0 d8), (proj 1 d8), (proj 2 d8)]), (.agg [(proj 0 x1), (proj 1 x1), (proj 2 x1)])]) x0 sg))
      (ob (R.p F_pats_leaf [(proj 0 x0)]) fun d9 =>
      ob (dBin .eql (proj 0 x1) d9) fun d10 =>
      some ([x2, d10], sg)))))) := evP_of [16] (by kernel_rfl)
theorem eq_pats_bind_16 (R : Orc) (t2 : DV) (t8 : DV) (b3 : DV) (sg : List SObj) : P_pats_bind_16 R t2 t8 b3 sg =
  (ob (dLen (proj 6 b3)) fun d1 =>
  P_pats_bind_17h R t2 t8 (proj 6 b3) d1 (.int .i64 0) sg) := evP_of [16] (by kernel_rfl)
theorem eq_pats_bind_17h (R : Orc) (t2 : DV) (t8 : DV) (t52 : DV) (t53 : DV) (t54 : DV) (sg : List SObj) : P_pats_bind_17h R t2 t8 t52 t53 t54 sg =
  (ob (dBin .lss t54 t53) fun d1 =>
  oif d1
   (ob (dIdx 7 t52 t54) fun d2 =>
   ob (dIdx 3 t8 t54) fun d3 =>
   ob (R.r F_pats_bind [((.agg [(proj 0 d2), (proj 1 d2), (proj 2 d2), (proj 3 d2), (proj 4 d2), (proj 5 d2), (proj 6 d2)]), .val), ((.agg [(proj 0 d3), (proj 1 d3), (proj 2 d3)]), .val), (t2, .own)] sg) fun q4 =>
   ob (dExt 0 (.tup q4.1)) fun d5 =>
   ob (dExt 1 (.tup q4.1)) fun d6 =>
   ob (dUn .not d6) fun d7 =>
   oif d7
    (some ([(.list 4 []), (.bool false)], q4.2))
    (ob (dBin .add t54 (.int .i64 1)) fun d8 =>
    P_pats_bind_17h R d5 t8 t52 t53 d8 q4.2))
   (some ([t2, (.bool true)], sg))) := headP_of [16] (by kernel_rfl)
theorem fix_pats_bind (x0 : DV) (x1 : DV) (x2 : DV) (sg : List SObj) : (run cfg).r F_pats_bind [(x0, .val), (x1, .val), (x2, .own)] sg = P_pats_bind (run cfg) x0 x1 x2 sg :=
  (fix_raw (C := cfg) (f := F_pats_bind) (s := sig_pats_bind) (fn := Try.f179) (c := code_pats_bind) (by kernel_rfl) Try.func179 (by kernel_rfl)).trans (by kernel_rfl)
theorem call_pats_bind (x0 : DV) (x1 : DV) (x2 : DV) (sg : List SObj) {q : List DV × List SObj} (h : P_pats_bind (run cfg) x0 x1 x2 sg = some q) : (run cfg).r F_pats_bind [(x0, .val), (x1, .val), (x2, .own)] sg = some q := (fix_pats_bind x0 x1 x2 sg).trans h

/-! ### agree_agrees -/
noncomputable def code_agree_agrees : Code := Try.f180.body.getD .skip
noncomputable def P_agree_agrees (R : Orc) (x0 : DV) (x1 : DV) : Option DV := evP cfg R fl_agree_agrees (retP cfg.P Try.f180) [] code_agree_agrees (initSt Try.f180 [(x0, .val), (x1, .val)] [])
noncomputable def P_agree_agrees_8h (R : Orc) (t33 : DV) (t34 : DV) (t35 : DV) (b3 : DV) : Option DV := headP cfg R fl_agree_agrees (retP cfg.P Try.f180) [true, true, false, true, false] code_agree_agrees ⟨spread .undef 49 0 [(33, t33), (34, t34), (35, t35)], spread .val 49 0 [(3, (.loc 3 0))], spread none 49 0 [(3, some [((proj 0 b3), .val), ((proj 1 b3), .val), ((proj 2 b3), .val)])], []⟩
theorem eq_agree_agrees (R : Orc) (x0 : DV) (x1 : DV) : P_agree_agrees R x0 x1 =
  (og (isAggN 3 x0) <|
  og (isAggN 3 x1) <|
  ob (dBin .eql (proj 0 x0) (.int .i64 5)) fun d1 =>
  oif d1
   (ob (R.p F_typ_Closed [(.agg [(proj 0 x1), (proj 1 x1), (proj 2 x1)])]) fun d2 =>
   some d2)
   (ob (dBin .eql (proj 0 x1) (.int .i64 5)) fun d3 =>
   oif d3
    (ob (R.p F_typ_Closed [(.agg [(proj 0 x0), (proj 1 x0), (proj 2 x0)])]) fun d4 =>
    some d4)
    (ob (dBin .neq (proj 0 x0) (proj 0 x1)) fun d5 =>
    ogd d5
     (some (.bool false))
     (ob (dBin .neq (proj 1 x0) (proj 1 x1)) fun d6 =>
     oif d6
      (some (.bool false))
      (ob (dLen (proj 2 x0)) fun d7 =>
      P_agree_agrees_8h R (proj 2 x0) d7 (.int .i64 0) x1))
     none))) := evP_of [] (by kernel_rfl)
theorem eq_agree_agrees_8h (R : Orc) (t33 : DV) (t34 : DV) (t35 : DV) (b3 : DV) : P_agree_agrees_8h R t33 t34 t35 b3 =
  (ob (dBin .lss t35 t34) fun d1 =>
  oif d1
   (ob (dIdx 3 t33 t35) fun d2 =>
   ob (dIdx 3 (proj 2 b3) t35) fun d3 =>
   ob (R.p F_agree_agrees [(.agg [(proj 0 d2), (proj 1 d2), (proj 2 d2)]), (.agg [(proj 0 d3), (proj 1 d3), (proj 2 d3)])]) fun d4 =>
   ob (dUn .not d4) fun d5 =>
   oif d5
    (some (.bool false))
    (ob (dBin .add t35 (.int .i64 1)) fun d6 =>
    P_agree_agrees_8h R t33 t34 d6 b3))
   (some (.bool true))) := headP_of [] (by kernel_rfl)
theorem fix_agree_agrees (x0 : DV) (x1 : DV) : (run cfg).p F_agree_agrees [x0, x1] = P_agree_agrees (run cfg) x0 x1 :=
  (fix_pure (C := cfg) (f := F_agree_agrees) (fn := Try.f180) (c := code_agree_agrees) (by kernel_rfl) Try.func180 (by kernel_rfl)).trans (by kernel_rfl)
theorem call_agree_agrees (x0 : DV) (x1 : DV) {d : DV} (h : P_agree_agrees (run cfg) x0 x1 = some d) : (run cfg).p F_agree_agrees [x0, x1] = some d := (fix_agree_agrees x0 x1).trans h

/-! ### typ_arity -/
noncomputable def code_typ_arity : Code := Try.f181.body.getD .skip
noncomputable def P_typ_arity (R : Orc) (x0 : DV) : Option DV := evP cfg R fl_typ_arity (retP cfg.P Try.f181) [] code_typ_arity (initSt Try.f181 [(x0, .val)] [])
theorem eq_typ_arity (R : Orc) (x0 : DV) : P_typ_arity R x0 =
  (ob (dBin .eql x0 (.int .i64 1)) fun d1 =>
  oif d1
   (some (.int .i64 0))
   (ob (dBin .eql x0 (.int .i64 2)) fun d2 =>
   oif d2
    (some (.int .i64 0))
    (ob (dBin .eql x0 (.int .i64 3)) fun d3 =>
    oif d3
     (some (.int .i64 0))
     (ob (dBin .eql x0 (.int .i64 4)) fun d4 =>
     oif d4
      (some (.int .i64 0))
      (ob (dBin .eql x0 (.int .i64 5)) fun d5 =>
      oif d5
       (some (.int .i64 0))
       (ob (dBin .eql x0 (.int .i64 6)) fun d6 =>
       oif d6
        (some (.int .i64 0))
        (ob (dBin .eql x0 (.int .i64 8)) fun d7 =>
        oif d7
         (some (.int .i64 1))
         (ob (dBin .eql x0 (.int .i64 7)) fun d8 =>
         oif d8
          (some (.int .i64 2))
          (ob (dBin .eql x0 (.int .i64 9)) fun d9 =>
          oif d9
           (some (.int .i64 2))
           (some (.int .i64 (-1)))))))))))) := evP_of [] (by kernel_rfl)
theorem fix_typ_arity (x0 : DV) : (run cfg).p F_typ_arity [x0] = P_typ_arity (run cfg) x0 :=
  (fix_pure (C := cfg) (f := F_typ_arity) (fn := Try.f181) (c := code_typ_arity) (by kernel_rfl) Try.func181 (by kernel_rfl)).trans (by kernel_rfl)
theorem call_typ_arity (x0 : DV) {d : DV} (h : P_typ_arity (run cfg) x0 = some d) : (run cfg).p F_typ_arity [x0] = some d := (fix_typ_arity x0).trans h

end Go.Su

/-
  Equations of the program's functions: by program.
-/
namespace Go.Su
open Go.Proofs
set_option linter.unusedVariables false

/-! ### judge_find -/
noncomputable def code_judge_find : Code := Try.f182.body.getD .skip
noncomputable def P_judge_find (R : Orc) (x0 : DV) (x1 : DV) : Option DV := evP cfg R fl_judge_find (retP cfg.P Try.f182) [] code_judge_find (initSt Try.f182 [(x0, .val), (x1, .val)] [])
noncomputable def P_judge_find_2h (R : Orc) (t0 : DV) (t1 : DV) (t6 : DV) (b4_0 : DV) (b4_1 : DV) (b4_2 : DV) (b4_3 : DV) (b4_4 : DV) : Option DV := headP cfg R fl_judge_find (retP cfg.P Try.f182) [true, false, true, false] code_judge_find ⟨spread .undef 26 0 [(0, t0), (1, t1), (6, t6)], spread .val 26 0 [(4, (.loc 4 0))], spread none 26 0 [(4, some [(b4_0, .val), (b4_1, .val), (b4_2, .val), (b4_3, .val), (b4_4, .val)])], []⟩
theorem eq_judge_find (R : Orc) (x0 : DV) (x1 : DV) : P_judge_find R x0 x1 =
  (ob (dLen x0) fun d1 =>
  ob (dBin .sub d1 (.int .i64 1)) fun d2 =>
  P_judge_find_2h R x0 x1 d2 (.str ⟨#[]⟩) (.int .i64 0) (.int .i64 0) (.list 3 []) (.list 1 [])) := evP_of [] (by kernel_rfl)
theorem eq_judge_find_2h (R : Orc) (t0 : DV) (t1 : DV) (t6 : DV) (b4_0 : DV) (b4_1 : DV) (b4_2 : DV) (b4_3 : DV) (b4_4 : DV) : P_judge_find_2h R t0 t1 t6 b4_0 b4_1 b4_2 b4_3 b4_4 =
  (ob (dBin .geq t6 (.int .i64 0)) fun d1 =>
  oif d1
   (ob (dIdx 5 t0 t6) fun d2 =>
   ob (dBin .eql (proj 0 d2) t1) fun d3 =>
   oif d3
    (ob (dIdx 5 t0 t6) fun d4 =>
    some (.tup [(.agg [(proj 0 d4), (proj 1 d4), (proj 2 d4), (proj 3 d4), (proj 4 d4)]), (.bool true)]))
    (ob (dBin .sub t6 (.int .i64 1)) fun d5 =>
    P_judge_find_2h R t0 t1 d5 b4_0 b4_1 b4_2 b4_3 b4_4))
   (some (.tup [(.agg [(.str ⟨#[]⟩), (.int .i64 0), (.int .i64 0), (.list 3 []), (.list 1 [])]), (.bool false)]))) := headP_of [] (by kernel_rfl)
theorem fix_judge_find (x0 : DV) (x1 : DV) : (run cfg).p F_judge_find [x0, x1] = P_judge_find (run cfg) x0 x1 :=
  (fix_pure (C := cfg) (f := F_judge_find) (fn := Try.f182) (c := code_judge_find) (by kernel_rfl) Try.func182 (by kernel_rfl)).trans (by kernel_rfl)
theorem call_judge_find (x0 : DV) (x1 : DV) {d : DV} (h : P_judge_find (run cfg) x0 x1 = some d) : (run cfg).p F_judge_find [x0, x1] = some d := (fix_judge_find x0 x1).trans h

/-! ### judge_judging_fails -/
noncomputable def code_judge_judging_fails : Code := Try.f183.body.getD .skip
noncomputable def P_judge_judging_fails (R : Orc) (x0 : Nat) (x1 : DV) (sg : List SObj) : Option (List DV × List SObj) := evP cfg R fl_judge_judging_fails (retR cfg.P Try.f183 sig_judge_judging_fails) [] code_judge_judging_fails (initSt Try.f183 [(.undef, (.ptr x0 0)), (x1, .val)] sg)
theorem eq_judge_judging_fails (R : Orc) (x0 : Nat) (x1 : DV) (sg : List SObj) : P_judge_judging_fails R x0 x1 sg =
  (ob (R.r F_judge_judging_ok [(.undef, (.ptr x0 0))] sg) fun q1 =>
  oif (q1.1.getD 0 .undef)
   (ob (sgBox q1.2 x0) fun c2 =>
   og (isCell x1) <|
   ob (c2[3]?) fun u3 =>
   some ([], (q1.2.set x0 (SObj.box (c2.set 3 (x1, .val))))))
   (some ([], q1.2))) := evP_of [] (by kernel_rfl)
theorem fix_judge_judging_fails (x0 : Nat) (x1 : DV) (sg : List SObj) : (run cfg).r F_judge_judging_fails [(.undef, (.ptr x0 0)), (x1, .val)] sg = P_judge_judging_fails (run cfg) x0 x1 sg :=
  (fix_raw (C := cfg) (f := F_judge_judging_fails) (s := sig_judge_judging_fails) (fn := Try.f183) (c := code_judge_judging_fails) (by kernel_rfl) Try.func183 (by kernel_rfl)).trans (by kernel_rfl)
theorem call_judge_judging_fails (x0 : Nat) (x1 : DV) (sg : List SObj) {q : List DV × List SObj} (h : P_judge_judging_fails (run cfg) x0 x1 sg = some q) : (run cfg).r F_judge_judging_fails [(.undef, (.ptr x0 0)), (x1, .val)] sg = some q := (fix_judge_judging_fails x0 x1 sg).trans h

/-! ### judge_judging_choices -/
noncomputable def code_judge_judging_choices : Code := Try.f184.body.getD .skip
noncomputable def P_judge_judging_choices (R : Orc) (x0 : Nat) (x1 : DV) (x2 : DV) (x3 : DV) (sg : List SObj) : Option (List DV × List SObj) := evP cfg R fl_judge_judging_choices (retR cfg.P Try.f184 sig_judge_judging_choices) [] code_judge_judging_choices (initSt Try.f184 [(.undef, (.ptr x0 0)), (x1, .val), (x2, .val), (x3, .val)] sg)
noncomputable def P_judge_judging_choices_4 (R : Orc) (t0i : Nat) (b5 : DV) (b6 : DV) (sg : List SObj) : Option (List DV × List SObj) := evP cfg R fl_judge_judging_choices (retR cfg.P Try.f184 sig_judge_judging_choices) [true, true, true] code_judge_judging_choices ⟨spread .undef 113 0 [], spread .val 113 0 [(0, (.ptr t0i 0)), (5, (.loc 5 0)), (6, (.loc 6 0))], spread none 113 0 [(5, some [((proj 0 b5), .val), ((proj 1 b5), .val), ((proj 2 b5), .val), ((proj 3 b5), .val), ((proj 4 b5), .val), ((proj 5 b5), .val), ((proj 6 b5), .val), ((proj 7 b5), .val), ((proj 8 b5), .val), ((proj 9 b5), .val), ((proj 10 b5), .val), ((proj 11 b5), .val), ((proj 12 b5), .val), ((proj 13 b5), .val), ((proj 14 b5), .val), ((proj 15 b5), .val)]), (6, some [((proj 0 b6), .val), ((proj 1 b6), .val), ((proj 2 b6), .val)])], sg⟩
noncomputable def P_judge_judging_choices_5h (R : Orc) (t0i : Nat) (t48 : DV) (t49 : DV) (t50 : DV) (b5 : DV) (b6 : DV) (sg : List SObj) : Option (List DV × List SObj) := headP cfg R fl_judge_judging_choices (retR cfg.P Try.f184 sig_judge_judging_choices) [true, true, true, false, true, false] code_judge_judging_choices ⟨spread .undef 113 0 [(48, t48), (49, t49), (50, t50)], spread .val 113 0 [(0, (.ptr t0i 0)), (5, (.loc 5 0)), (6, (.loc 6 0))], spread none 113 0 [(5, some [((proj 0 b5), .val), ((proj 1 b5), .val), ((proj 2 b5), .val), ((proj 3 b5), .val), ((proj 4 b5), .val), ((proj 5 b5), .val), ((proj 6 b5), .val), ((proj 7 b5), .val), ((proj 8 b5), .val), ((proj 9 b5), .val), ((proj 10 b5), .val), ((proj 11 b5), .val), ((proj 12 b5), .val), ((proj 13 b5), .val), ((proj 14 b5), .val), ((proj 15 b5), .val)]), (6, some [((proj 0 b6), .val), ((proj 1 b6), .val), ((proj 2 b6), .val)])], sg⟩
noncomputable def P_judge_judging_choices_14h (R : Orc) (t0i : Nat) (t82 : DV) (t83 : DV) (t84 : DV) (sg : List SObj) : Option (List DV × List SObj) := headP cfg R fl_judge_judging_choices (retR cfg.P Try.f184 sig_judge_judging_choices) [true, true, true, true, true, false, true, false] code_judge_judging_choices ⟨spread .undef 113 0 [(82, t82), (83, t83), (84, t84)], spread .val 113 0 [(0, (.ptr t0i 0))], spread none 113 0 [], sg⟩
noncomputable def P_judge_judging_choices_19h (R : Orc) (t0i : Nat) (t82 : DV) (t83 : DV) (t84 : DV) (t98 : DV) (t99 : DV) (t100 : DV) (sg : List SObj) : Option (List DV × List SObj) := headP cfg R fl_judge_judging_choices (retR cfg.P Try.f184 sig_judge_judging_choices) [true, true, true, true, true, false, true, false, false, true, true, false, false, true, true, true, false] code_judge_judging_choices ⟨spread .undef 113 0 [(82, t82), (83, t83), (84, t84), (98, t98), (99, t99), (100, t100)], spread .val 113 0 [(0, (.ptr t0i 0))], spread none 113 0 [], sg⟩
set_option maxRecDepth 100000 in
theorem eq_judge_judging_choices (R : Orc) (x0 : Nat) (x1 : DV) (x2 : DV) (x3 : DV) (sg : List SObj) : P_judge_judging_choices R x0 x1 x2 x3 sg =
  (og (isAggN 16 x1) <|
  og (isAggN 3 x2) <|
  og (isAggN 5 x3) <|
  ob (R.p F_judge_many [(.agg [(proj 0 x1), (proj 1 x1), (proj 2 x1), (proj 3 x1), (proj 4 x1), (proj 5 x1), (proj 6 x1), (proj 7 x1), (proj 8 x1), (proj 9 x1), (proj 10 x1), (proj 11 x1), (proj 12 x1), (proj 13 x1), (proj 14 x1), (proj 15 x1)]), (.agg [(proj 0 x3), (proj 1 x3), (proj 2 x3), (proj 3 x3), (proj 4 x3)])]) fun d1 =>
  ob (dExt 0 d1) fun d2 =>
  ob (dExt 1 d1) fun d3 =>
  ob (dLen (proj 0 x2)) fun d4 =>
  ob (dBin .neq d4 d2) fun d5 =>
  ogd d5
   (some ([(.int .i64 8)], sg))
   (ob (dLen (proj 2 x2)) fun d6 =>
   ob (dLen (proj 15 x1)) fun d7 =>
   ob (dBin .neq d6 d7) fun d8 =>
   ogd d8
    (some ([(.int .i64 8)], sg))
    (ob (dLen (proj 1 x2)) fun d9 =>
    ob (dBin .gtr d9 (.int .i64 0)) fun d10 =>
    ogd d10
     (ob (dUn .not d3) fun d11 =>
     oif d11
      (some ([(.int .i64 8)], sg))
      (P_judge_judging_choices_4 R x0 x1 x2 sg))
     (P_judge_judging_choices_4 R x0 x1 x2 sg)
     none)
    none)
   none) := evP_of [4] (by kernel_rfl)
theorem eq_judge_judging_choices_4 (R : Orc) (t0i : Nat) (b5 : DV) (b6 : DV) (sg : List SObj) : P_judge_judging_choices_4 R t0i b5 b6 sg =
  (ob (dLen (proj 1 b6)) fun d1 =>
  P_judge_judging_choices_5h R t0i (proj 1 b6) d1 (.int .i64 0) b5 b6 sg) := evP_of [4] (by kernel_rfl)
theorem eq_judge_judging_choices_5h (R : Orc) (t0i : Nat) (t48 : DV) (t49 : DV) (t50 : DV) (b5 : DV) (b6 : DV) (sg : List SObj) : P_judge_judging_choices_5h R t0i t48 t49 t50 b5 b6 sg =
  (ob (dBin .lss t50 t49) fun d1 =>
  oif d1
   (ob (dIdx 1 t48 t50) fun d2 =>
   og (isLeaf d2) <|
   ob (sgBox sg t0i) fun c3 =>
   ob (cellMap c3 1) fun i4 =>
   og (isKey false d2 && true) <|
   ob (sgMap sg i4) fun m5 =>
   og (m5.1 == false) <|
   ob (dBin .gtr ((mGet m5.2 d2).getD (.int .i64 0)) (.int .i64 0)) fun d6 =>
   ogd d6
    (some ([(.int .i64 6)], sg))
    (ob (dSlice 1 (proj 1 b6) none (some t50)) fun d7 =>
    ob (R.p F_slices_Contains__int_int [d7, d2]) fun d8 =>
    oif d8
     (some ([(.int .i64 6)], sg))
     (ob (dBin .add t50 (.int .i64 1)) fun d9 =>
     P_judge_judging_choices_5h R t0i t48 t49 d9 b5 b6 sg))
    none)
   (ob (dBin .eql (proj 0 b5) (.int .i64 12)) fun d10 =>
   oif d10
    (ob (R.r F_judge_judging_enter [(.undef, (.ptr t0i 0)), ((proj 1 b6), .val), ((.int .i64 1), .val)] sg) fun q11 =>
    none)
    (ob (dLen (proj 0 b6)) fun d12 =>
    P_judge_judging_choices_14h R t0i (proj 0 b6) d12 (.int .i64 0) sg))) := headP_of [4] (by kernel_rfl)
theorem eq_judge_judging_choices_14h (R : Orc) (t0i : Nat) (t82 : DV) (t83 : DV) (t84 : DV) (sg : List SObj) : P_judge_judging_choices_14h R t0i t82 t83 t84 sg =
  (ob (dBin .lss t84 t83) fun d1 =>
  oif d1
   (ob (dIdx 3 t82 t84) fun d2 =>
   ob (sgBox sg t0i) fun c3 =>
   ob (cellDat c3 0) fun d4 =>
   ogd d4
    (ob (R.p F_typ_Static [(.agg [(proj 0 d2), (proj 1 d2), (proj 2 d2)])]) fun d5 =>
    ob (dUn .not d5) fun d6 =>
    oif d6
     (some ([(.int .i64 9)], sg))
     (ob (R.p F_typ_Vars [(.agg [(proj 0 d2), (proj 1 d2), (proj 2 d2)])]) fun d7 =>
     ob (dLen d7) fun d8 =>
     P_judge_judging_choices_19h R t0i t82 t83 t84 d7 d8 (.int .i64 0) sg))
    (ob (R.p F_typ_Vars [(.agg [(proj 0 d2), (proj 1 d2), (proj 2 d2)])]) fun d9 =>
    ob (dLen d9) fun d10 =>
    P_judge_judging_choices_19h R t0i t82 t83 t84 d9 d10 (.int .i64 0) sg)
    none)
   (some ([(.int .i64 0)], sg))) := headP_of [4] (by kernel_rfl)
theorem eq_judge_judging_choices_19h (R : Orc) (t0i : Nat) (t82 : DV) (t83 : DV) (t84 : DV) (t98 : DV) (t99 : DV) (t100 : DV) (sg : List SObj) : P_judge_judging_choices_19h R t0i t82 t83 t84 t98 t99 t100 sg =
  (ob (dBin .lss t100 t99) fun d1 =>
  oif d1
   (ob (dIdx 1 t98 t100) fun d2 =>
   og (isLeaf d2) <|
   ob (sgBox sg t0i) fun c3 =>
   ob (cellMap c3 1) fun i4 =>
   og (isKey false d2 && true) <|
   ob (sgMap sg i4) fun m5 =>
   og (m5.1 == false) <|
   ob (dBin .eql ((mGet m5.2 d2).getD (.int .i64 0)) (.int .i64 0)) fun d6 =>
   oif d6
    (some ([(.int .i64 6)], sg))
    (ob (dBin .add t100 (.int .i64 1)) fun d7 =>
    P_judge_judging_choices_19h R t0i t82 t83 t84 t98 t99 d7 sg))
   (ob (dBin .add t84 (.int .i64 1)) fun d8 =>
   P_judge_judging_choices_14h R t0i t82 t83 d8 sg)) := headP_of [4] (by kernel_rfl)
theorem fix_judge_judging_choices (x0 : Nat) (x1 : DV) (x2 : DV) (x3 : DV) (sg : List SObj) : (run cfg).r F_judge_judging_choices [(.undef, (.ptr x0 0)), (x1, .val), (x2, .val), (x3, .val)] sg = P_judge_judging_choices (run cfg) x0 x1 x2 x3 sg :=
  (fix_raw (C := cfg) (f := F_judge_judging_choices) (s := sig_judge_judging_choices) (fn := Try.f184) (c := code_judge_judging_choices) (by kernel_rfl) Try.func184 (by kernel_rfl)).trans (by kernel_rfl)
theorem call_judge_judging_choices (x0 : Nat) (x1 : DV) (x2 : DV) (x3 : DV) (sg : List SObj) {q : List DV × List SObj} (h : P_judge_judging_choices (run cfg) x0 x1 x2 x3 sg = some q) : (run cfg).r F_judge_judging_choices [(.undef, (.ptr x0 0)), (x1, .val), (x2, .val), (x3, .val)] sg = some q := (fix_judge_judging_choices x0 x1 x2 x3 sg).trans h

/-! ### judge_judging_name -/
noncomputable def code_judge_judging_name : Code := Try.f185.body.getD .skip
noncomputable def P_judge_judging_name (R : Orc) (x0 : Nat) (x1 : DV) (x2 : DV) (x3 : DV) (sg : List SObj) : Option (List DV × List SObj) := evP cfg R fl_judge_judging_name (retR cfg.P Try.f185 sig_judge_judging_name) [] code_judge_judging_name (initSt Try.f185 [(.undef, (.ptr x0 0)), (x1, .val), (x2, .val), (x3, .val)] sg)
noncomputable def P_judge_judging_name_5h (R : Orc) (t10 : DV) (t20 : DV) (t21 : DV) (t22 : DV) (b5 : DV) (b6 : DV) (b8_0 : DV) (b8_1 : DV) (b8_2 : DV) (b8_3 : DV) (b8_4 : DV) (b8_5 : DV) (b8_6 : DV) (b8_7 : DV) (b8_8 : DV) (b8_9 : DV) (b8_10 : DV) (b8_11 : DV) (b8_12 : DV) (b8_13 : DV) (b8_14 : DV) (b8_15 : DV) (b8_16 : DV) (b8_17 : DV) (b8_18 : DV) (b8_19 : DV) (b8_20 : DV) (b8_21 : DV) (b8_22 : DV) (b9_0 : DV) (b9_1 : DV) (b9_2 : DV) (sg : List SObj) : Option (List DV × List SObj) := headP cfg R fl_judge_judging_name (retR cfg.P Try.f185 sig_judge_judging_name) [true, true, false, true, false, true, false, true, false] code_judge_judging_name ⟨spread .undef 51 0 [(10, t10), (20, t20), (21, t21), (22, t22)], spread .val 51 0 [(5, (.loc 5 0)), (6, (.loc 6 0)), (8, (.loc 8 0)), (9, (.loc 9 0)), (10, .own)], spread none 51 0 [(5, some [((proj 0 b5), .val), ((proj 1 b5), .val), ((proj 2 b5), .val), ((proj 3 b5), .val), ((proj 4 b5), .val), ((proj 5 b5), .val), ((proj 6 b5), .val), ((proj 7 b5), .val), ((proj 8 b5), .val), ((proj 9 b5), .val), ((proj 10 b5), .val), ((proj 11 b5), .val), ((proj 12 b5), .val), ((proj 13 b5), .val), ((proj 14 b5), .val), ((proj 15 b5), .val)]), (6, some [((proj 0 b6), .val), ((proj 1 b6), .val), ((proj 2 b6), .val)]), (8, some [(b8_0, .val), (b8_1, .val), (b8_2, .val), (b8_3, .val), (b8_4, .val), (b8_5, .val), (b8_6, .val), (b8_7, .val), (b8_8, .val), (b8_9, .val), (b8_10, .val), (b8_11, .val), (b8_12, .val), (b8_13, .val), (b8_14, .val), (b8_15, .val), (b8_16, .val), (b8_17, .val), (b8_18, .val), (b8_19, .val), (b8_20, .val), (b8_21, .val), (b8_22, .val)]), (9, some [(b9_0, .val), (b9_1, .val), (b9_2, .val)])], sg⟩
theorem eq_judge_judging_name (R : Orc) (x0 : Nat) (x1 : DV) (x2 : DV) (x3 : DV) (sg : List SObj) : P_judge_judging_name R x0 x1 x2 x3 sg =
  (og (isAggN 16 x1) <|
  og (isAggN 3 x2) <|
  og (isAggN 5 x3) <|
  ob (dLen (proj 4 x3)) fun d1 =>
  ob (dBin .gtr d1 (.int .i64 0)) fun d2 =>
  oif d2
   (ob (dLen (proj 4 x3)) fun d3 =>
   P_judge_judging_name_5h R (.list 4 []) (proj 4 x3) d3 (.int .i64 0) x1 x2 (.int .i64 0) (.int .i64 0) (.list 3 []) (.int .i64 0) (.int .i64 0) (.int .i64 0) (.str ⟨#[]⟩) (.str ⟨#[]⟩) (.int .i64 0) (.str ⟨#[]⟩) (.int .i64 0) (.int .i64 0) (.bool false) (.list 1 []) (.int .i64 0) (.int .i64 0) (.list 3 []) (.int .i64 0) (.int .i64 0) (.list 3 []) (.list 3 []) (.list 7 []) (.list 20 []) (proj 1 x3) (proj 2 x3) (proj 3 x3) sg)
   (og (isCell (proj 3 x1)) <|
   og (isCell (proj 0 x2)) <|
   some ([(.agg [(proj 1 x3), (proj 2 x3), (proj 3 x3), (.int .i64 1), (.int .i64 0), (.int .i64 0), (proj 3 x1), (.str ⟨#[]⟩), (.int .i64 0), (.str ⟨#[]⟩), (.int .i64 0), (.int .i64 0), (.bool false), (.list 1 []), (.int .i64 0), (.int .i64 0), (.list 3 []), (.int .i64 0), (.int .i64 0), (.list 3 []), (proj 0 x2), (.list 7 []), (.list 20 [])])], sg))) := evP_of [] (by kernel_rfl)
theorem eq_judge_judging_name_5h (R : Orc) (t10 : DV) (t20 : DV) (t21 : DV) (t22 : DV) (b5 : DV) (b6 : DV) (b8_0 : DV) (b8_1 : DV) (b8_2 : DV) (b8_3 : DV) (b8_4 : DV) (b8_5 : DV) (b8_6 : DV) (b8_7 : DV) (b8_8 : DV) (b8_9 : DV) (b8_10 : DV) (b8_11 : DV) (b8_12 : DV) (b8_13 : DV) (b8_14 : DV) (b8_15 : DV) (b8_16 : DV) (b8_17 : DV) (b8_18 : DV) (b8_19 : DV) (b8_20 : DV) (b8_21 : DV) (b8_22 : DV) (b9_0 : DV) (b9_1 : DV) (b9_2 : DV) (sg : List SObj) : P_judge_judging_name_5h R t10 t20 t21 t22 b5 b6 b8_0 b8_1 b8_2 b8_3 b8_4 b8_5 b8_6 b8_7 b8_8 b8_9 b8_10 b8_11 b8_12 b8_13 b8_14 b8_15 b8_16 b8_17 b8_18 b8_19 b8_20 b8_21 b8_22 b9_0 b9_1 b9_2 sg =
  (ob (dBin .lss t22 t21) fun d1 =>
  oif d1
   (ob (dIdx 1 t20 t22) fun d2 =>
   og (isLeaf d2) <|
   ob (dIdx 3 (proj 0 b6) t22) fun d3 =>
   og (isCell d2) <|
   ob (dApp 4 t10 (.list 4 [(.agg [d2, (proj 0 d3), (proj 1 d3), (proj 2 d3)])])) fun d4 =>
   ob (dBin .add t22 (.int .i64 1)) fun d5 =>
   P_judge_judging_name_5h R d4 t20 t21 d5 b5 b6 b8_0 b8_1 b8_2 b8_3 b8_4 b8_5 b8_6 b8_7 b8_8 b8_9 b8_10 b8_11 b8_12 b8_13 b8_14 b8_15 b8_16 b8_17 b8_18 b8_19 b8_20 b8_21 b8_22 b9_0 b9_1 b9_2 sg)
   (ob (R.p F_scheme_Subst [(.agg [b9_0, b9_1, b9_2]), t10]) fun d6 =>
   ob (dExt 0 d6) fun d7 =>
   ob (dExt 1 d6) fun d8 =>
   og (isAggN 3 d7) <|
   og (isCell (proj 3 b5)) <|
   og (isCell (proj 0 b6)) <|
   some ([(.agg [(proj 0 d7), (proj 1 d7), (proj 2 d7), (.int .i64 1), (.int .i64 0), (.int .i64 0), (proj 3 b5), (.str ⟨#[]⟩), (.int .i64 0), (.str ⟨#[]⟩), (.int .i64 0), (.int .i64 0), (.bool false), (.list 1 []), (.int .i64 0), (.int .i64 0), (.list 3 []), (.int .i64 0), (.int .i64 0), (.list 3 []), (proj 0 b6), (.list 7 []), (.list 20 [])])], sg))) := headP_of [] (by kernel_rfl)
theorem fix_judge_judging_name (x0 : Nat) (x1 : DV) (x2 : DV) (x3 : DV) (sg : List SObj) : (run cfg).r F_judge_judging_name [(.undef, (.ptr x0 0)), (x1, .val), (x2, .val), (x3, .val)] sg = P_judge_judging_name (run cfg) x0 x1 x2 x3 sg :=
  (fix_raw (C := cfg) (f := F_judge_judging_name) (s := sig_judge_judging_name) (fn := Try.f185) (c := code_judge_judging_name) (by kernel_rfl) Try.func185 (by kernel_rfl)).trans (by kernel_rfl)
theorem call_judge_judging_name (x0 : Nat) (x1 : DV) (x2 : DV) (x3 : DV) (sg : List SObj) {q : List DV × List SObj} (h : P_judge_judging_name (run cfg) x0 x1 x2 x3 sg = some q) : (run cfg).r F_judge_judging_name [(.undef, (.ptr x0 0)), (x1, .val), (x2, .val), (x3, .val)] sg = some q := (fix_judge_judging_name x0 x1 x2 x3 sg).trans h

/-! ### judge_judging_kid -/
noncomputable def code_judge_judging_kid : Code := Try.f186.body.getD .skip
noncomputable def P_judge_judging_kid (R : Orc) (x0 : Nat) (x1 : DV) (x2 : DV) (x3 : DV) (x4 : DV) (sg : List SObj) : Option (List DV × List SObj) := evP cfg R fl_judge_judging_kid (retR cfg.P Try.f186 sig_judge_judging_kid) [] code_judge_judging_kid (initSt Try.f186 [(.undef, (.ptr x0 0)), (x1, .val), (x2, .val), (x3, .val), (x4, .val)] sg)
theorem eq_judge_judging_kid (R : Orc) (x0 : Nat) (x1 : DV) (x2 : DV) (x3 : DV) (x4 : DV) (sg : List SObj) : P_judge_judging_kid R x0 x1 x2 x3 x4 sg =
  (og (isAggN 16 x1) <|
  og (isAggN 3 x2) <|
  ob (R.r F_judge_judging_ok [(.undef, (.ptr x0 0))] sg) fun q1 =>
  ob (dUn .not (q1.1.getD 0 .undef)) fun d2 =>
  oif d2
   (some ([(.agg [(.int .i64 0), (.int .i64 0), (.list 3 []), (.int .i64 0), (.int .i64 0), (.int .i64 0), (.str ⟨#[]⟩), (.str ⟨#[]⟩), (.int .i64 0), (.str ⟨#[]⟩), (.int .i64 0), (.int .i64 0), (.bool false), (.list 1 []), (.int .i64 0), (.int .i64 0), (.list 3 []), (.int .i64 0), (.int .i64 0), (.list 3 []), (.list 3 []), (.list 7 []), (.list 20 [])])], q1.2))
   (ob (dIdx 16 (proj 15 x1) x3) fun d3 =>
   ob (dIdx 3 (proj 2 x2) x3) fun d4 =>
   ob (R.r F_judge_judging_expr [(.undef, (.ptr x0 0)), ((.agg [(proj 0 d3), (proj 1 d3), (proj 2 d3), (proj 3 d3), (proj 4 d3), (proj 5 d3), (proj 6 d3), (proj 7 d3), (proj 8 d3), (proj 9 d3), (proj 10 d3), (proj 11 d3), (proj 12 d3), (proj 13 d3), (proj 14 d3), (proj 15 d3)]), .val), ((.agg [(proj 0 d4), (proj 1 d4), (proj 2 d4)]), .val), (x4, .val)] q1.2) fun q5 =>
   og (isAggN 23 (q5.1.getD 0 .undef)) <|
   some ([(.agg [(proj 0 (q5.1.getD 0 .undef)), (proj 1 (q5.1.getD 0 .undef)), (proj 2 (q5.1.getD 0 .undef)), (proj 3 (q5.1.getD 0 .undef)), (proj 4 (q5.1.getD 0 .undef)), (proj 5 (q5.1.getD 0 .undef)), (proj 6 (q5.1.getD 0 .undef)), (proj 7 (q5.1.getD 0 .undef)), (proj 8 (q5.1.getD 0 .undef)), (proj 9 (q5.1.getD 0 .undef)), (proj 10 (q5.1.getD 0 .undef)), (proj 11 (q5.1.getD 0 .undef)), (proj 12 (q5.1.getD 0 .undef)), (proj 13 (q5.1.getD 0 .undef)), (proj 14 (q5.1.getD 0 .undef)), (proj 15 (q5.1.getD 0 .undef)), (proj 16 (q5.1.getD 0 .undef)), (proj 17 (q5.1.getD 0 .undef)), (proj 18 (q5.1.getD 0 .undef)), (proj 19 (q5.1.getD 0 .undef)), (proj 20 (q5.1.getD 0 .undef)), (proj 21 (q5.1.getD 0 .undef)), (proj 22 (q5.1.getD 0 .undef))])], q5.2))) := evP_of [] (by kernel_rfl)
theorem fix_judge_judging_kid (x0 : Nat) (x1 : DV) (x2 : DV) (x3 : DV) (x4 : DV) (sg : List SObj) : (run cfg).r F_judge_judging_kid [(.undef, (.ptr x0 0)), (x1, .val), (x2, .val), (x3, .val), (x4, .val)] sg = P_judge_judging_kid (run cfg) x0 x1 x2 x3 x4 sg :=
  (fix_raw (C := cfg) (f := F_judge_judging_kid) (s := sig_judge_judging_kid) (fn := Try.f186) (c := code_judge_judging_kid) (by kernel_rfl) Try.func186 (by kernel_rfl)).trans (by kernel_rfl)
theorem call_judge_judging_kid (x0 : Nat) (x1 : DV) (x2 : DV) (x3 : DV) (x4 : DV) (sg : List SObj) {q : List DV × List SObj} (h : P_judge_judging_kid (run cfg) x0 x1 x2 x3 x4 sg = some q) : (run cfg).r F_judge_judging_kid [(.undef, (.ptr x0 0)), (x1, .val), (x2, .val), (x3, .val), (x4, .val)] sg = some q := (fix_judge_judging_kid x0 x1 x2 x3 x4 sg).trans h

/-! ### judge_list -/
noncomputable def code_judge_list : Code := Try.f187.body.getD .skip
noncomputable def P_judge_list (R : Orc) (x0 : DV) : Option DV := evP cfg R fl_judge_list (retP cfg.P Try.f187) [] code_judge_list (initSt Try.f187 [(x0, .val)] [])
theorem eq_judge_list (R : Orc) (x0 : DV) : P_judge_list R x0 =
  (og (isAggN 3 x0) <|
  some (.agg [(.int .i64 8), (.int .i64 0), (.list 3 [(.agg [(proj 0 x0), (proj 1 x0), (proj 2 x0)])])])) := evP_of [] (by kernel_rfl)
theorem fix_judge_list (x0 : DV) : (run cfg).p F_judge_list [x0] = P_judge_list (run cfg) x0 :=
  (fix_pure (C := cfg) (f := F_judge_list) (fn := Try.f187) (c := code_judge_list) (by kernel_rfl) Try.func187 (by kernel_rfl)).trans (by kernel_rfl)
theorem call_judge_list (x0 : DV) {d : DV} (h : P_judge_list (run cfg) x0 = some d) : (run cfg).p F_judge_list [x0] = some d := (fix_judge_list x0).trans h

/-! ### judge_judging_fits -/
noncomputable def code_judge_judging_fits : Code := Try.f188.body.getD .skip
noncomputable def P_judge_judging_fits (R : Orc) (x0 : Nat) (x1 : DV) (x2 : DV) (x3 : DV) (x4 : DV) (x5 : DV) (sg : List SObj) : Option (List DV × List SObj) := evP cfg R fl_judge_judging_fits (retR cfg.P Try.f188 sig_judge_judging_fits) [] code_judge_judging_fits (initSt Try.f188 [(.undef, (.ptr x0 0)), (x1, .val), (x2, .val), (x3, .val), (x4, .val), (x5, .val)] sg)
noncomputable def P_judge_judging_fits_4 (R : Orc) (t0i : Nat) (t3 : DV) (b7 : DV) (b11 : DV) (b12_0 : DV) (b12_1 : DV) (b12_2 : DV) (b12_3 : DV) (b12_4 : DV) (b12_5 : DV) (b12_6 : DV) (b12_7 : DV) (b12_8 : DV) (b12_9 : DV) (b12_10 : DV) (b12_11 : DV) (b12_12 : DV) (b12_13 : DV) (b12_14 : DV) (b12_15 : DV) (b12_16 : DV) (b12_17 : DV) (b12_18 : DV) (b12_19 : DV) (b13 : DV) (sg : List SObj) : Option (List DV × List SObj) := evP cfg R fl_judge_judging_fits (retR cfg.P Try.f188 sig_judge_judging_fits) [true, true, true] code_judge_judging_fits ⟨spread .undef 44 0 [(3, t3)], spread .val 44 0 [(0, (.ptr t0i 0)), (7, (.loc 7 0)), (11, (.loc 11 0)), (12, (.loc 12 0)), (13, (.loc 13 0))], spread none 44 0 [(7, some [((proj 0 b7), .val), ((proj 1 b7), .val), ((proj 2 b7), .val), ((proj 3 b7), .val), ((proj 4 b7), .val), ((proj 5 b7), .val), ((proj 6 b7), .val), ((proj 7 b7), .val), ((proj 8 b7), .val), ((proj 9 b7), .val), ((proj 10 b7), .val), ((proj 11 b7), .val), ((proj 12 b7), .val), ((proj 13 b7), .val), ((proj 14 b7), .val), ((proj 15 b7), .val)]), (11, some [((proj 0 b11), .val), ((proj 1 b11), .val), ((proj 2 b11), .val)]), (12, some [(b12_0, .val), (b12_1, .val), (b12_2, .val), (b12_3, .val), (b12_4, .val), (b12_5, .val), (b12_6, .val), (b12_7, .val), (b12_8, .val), (b12_9, .val), (b12_10, .val), (b12_11, .val), (b12_12, .val), (b12_13, .val), (b12_14, .val), (b12_15, .val), (b12_16, .val), (b12_17, .val), (b12_18, .val), (b12_19, .val)]), (13, some [((proj 0 b13), .val), ((proj 1 b13), .val), ((proj 2 b13), .val), ((proj 3 b13), .val), ((proj 4 b13), .val), ((proj 5 b13), .val), ((proj 6 b13), .val), ((proj 7 b13), .val), ((proj 8 b13), .val), ((proj 9 b13), .val), ((proj 10 b13), .val), ((proj 11 b13), .val), ((proj 12 b13), .val), ((proj 13 b13), .val), ((proj 14 b13), .val), ((proj 15 b13), .val), ((proj 16 b13), .val), ((proj 17 b13), .val), ((proj 18 b13), .val), ((proj 19 b13), .val), ((proj 20 b13), .val), ((proj 21 b13), .val), ((proj 22 b13), .val)])], sg⟩
theorem eq_judge_judging_fits (R : Orc) (x0 : Nat) (x1 : DV) (x2 : DV) (x3 : DV) (x4 : DV) (x5 : DV) (sg : List SObj) : P_judge_judging_fits R x0 x1 x2 x3 x4 x5 sg =
  (og (isAggN 16 x1) <|
  og (isAggN 3 x2) <|
  og (isAggN 3 x5) <|
  ob (R.r F_judge_judging_kid [(.undef, (.ptr x0 0)), ((.agg [(proj 0 x1), (proj 1 x1), (proj 2 x1), (proj 3 x1), (proj 4 x1), (proj 5 x1), (proj 6 x1), (proj 7 x1), (proj 8 x1), (proj 9 x1), (proj 10 x1), (proj 11 x1), (proj 12 x1), (proj 13 x1), (proj 14 x1), (proj 15 x1)]), .val), ((.agg [(proj 0 x2), (proj 1 x2), (proj 2 x2)]), .val), (x3, .val), (x4, .val)] sg) fun q1 =>
  og (isAggN 23 (q1.1.getD 0 .undef)) <|
  ob (R.r F_judge_judging_ok [(.undef, (.ptr x0 0))] q1.2) fun q2 =>
  ogd (q2.1.getD 0 .undef)
   (ob (R.p F_agree_Agree [(.agg [(proj 0 (q1.1.getD 0 .undef)), (proj 1 (q1.1.getD 0 .undef)), (proj 2 (q1.1.getD 0 .undef))]), (.agg [(proj 0 x5), (proj 1 x5), (proj 2 x5)])]) fun d3 =>
   ob (dUn .not d3) fun d4 =>
   oif d4
    (ob (R.r F_judge_judging_fails [(.undef, (.ptr x0 0)), ((.int .i64 4), .val)] q2.2) fun q5 =>
    P_judge_judging_fits_4 R x0 x3 x1 x5 (.int .i64 0) (.int .i64 0) (.int .i64 0) (.str ⟨#[]⟩) (.str ⟨#[]⟩) (.int .i64 0) (.str ⟨#[]⟩) (.int .i64 0) (.int .i64 0) (.bool false) (.list 1 []) (.int .i64 0) (.int .i64 0) (.list 3 []) (.int .i64 0) (.int .i64 0) (.list 3 []) (.list 3 []) (.list 7 []) (.list 20 []) (q1.1.getD 0 .undef) q5.2)
    (P_judge_judging_fits_4 R x0 x3 x1 x5 (.int .i64 0) (.int .i64 0) (.int .i64 0) (.str ⟨#[]⟩) (.str ⟨#[]⟩) (.int .i64 0) (.str ⟨#[]⟩) (.int .i64 0) (.int .i64 0) (.bool false) (.list 1 []) (.int .i64 0) (.int .i64 0) (.list 3 []) (.int .i64 0) (.int .i64 0) (.list 3 []) (.list 3 []) (.list 7 []) (.list 20 []) (q1.1.getD 0 .undef) q2.2))
   (P_judge_judging_fits_4 R x0 x3 x1 x5 (.int .i64 0) (.int .i64 0) (.int .i64 0) (.str ⟨#[]⟩) (.str ⟨#[]⟩) (.int .i64 0) (.str ⟨#[]⟩) (.int .i64 0) (.int .i64 0) (.bool false) (.list 1 []) (.int .i64 0) (.int .i64 0) (.list 3 []) (.int .i64 0) (.int .i64 0) (.list 3 []) (.list 3 []) (.list 7 []) (.list 20 []) (q1.1.getD 0 .undef) q2.2)
   none) := evP_of [4] (by kernel_rfl)
theorem eq_judge_judging_fits_4 (R : Orc) (t0i : Nat) (t3 : DV) (b7 : DV) (b11 : DV) (b12_0 : DV) (b12_1 : DV) (b12_2 : DV) (b12_3 : DV) (b12_4 : DV) (b12_5 : DV) (b12_6 : DV) (b12_7 : DV) (b12_8 : DV) (b12_9 : DV) (b12_10 : DV) (b12_11 : DV) (b12_12 : DV) (b12_13 : DV) (b12_14 : DV) (b12_15 : DV) (b12_16 : DV) (b12_17 : DV) (b12_18 : DV) (b12_19 : DV) (b13 : DV) (sg : List SObj) : P_judge_judging_fits_4 R t0i t3 b7 b11 b12_0 b12_1 b12_2 b12_3 b12_4 b12_5 b12_6 b12_7 b12_8 b12_9 b12_10 b12_11 b12_12 b12_13 b12_14 b12_15 b12_16 b12_17 b12_18 b12_19 b13 sg =
  (ob (R.r F_judge_judging_ok [(.undef, (.ptr t0i 0))] sg) fun q1 =>
  ob (dUn .not (q1.1.getD 0 .undef)) fun d2 =>
  oif d2
   (some ([(.agg [(.int .i64 0), (.int .i64 0), (.int .i64 0), (.str ⟨#[]⟩), (.str ⟨#[]⟩), (.int .i64 0), (.str ⟨#[]⟩), (.int .i64 0), (.int .i64 0), (.bool false), (.list 1 []), (.int .i64 0), (.int .i64 0), (.list 3 []), (.int .i64 0), (.int .i64 0), (.list 3 []), (.list 3 []), (.list 7 []), (.list 20 [])])], q1.2))
   (ob (dIdx 16 (proj 15 b7) t3) fun d3 =>
   ob (R.r F_judge_judging_cast [(.undef, (.ptr t0i 0)), ((.agg [(proj 0 b13), (proj 1 b13), (proj 2 b13), (proj 3 b13), (proj 4 b13), (proj 5 b13), (proj 6 b13), (proj 7 b13), (proj 8 b13), (proj 9 b13), (proj 10 b13), (proj 11 b13), (proj 12 b13), (proj 13 b13), (proj 14 b13), (proj 15 b13), (proj 16 b13), (proj 17 b13), (proj 18 b13), (proj 19 b13), (proj 20 b13), (proj 21 b13), (proj 22 b13)]), .val), ((.agg [(proj 0 d3), (proj 1 d3), (proj 2 d3), (proj 3 d3), (proj 4 d3), (proj 5 d3), (proj 6 d3), (proj 7 d3), (proj 8 d3), (proj 9 d3), (proj 10 d3), (proj 11 d3), (proj 12 d3), (proj 13 d3), (proj 14 d3), (proj 15 d3)]), .val), ((.agg [(proj 0 b11), (proj 1 b11), (proj 2 b11)]), .val)] q1.2) fun q4 =>
   og (isAggN 20 (q4.1.getD 0 .undef)) <|
   some ([(.agg [(proj 0 (q4.1.getD 0 .undef)), (proj 1 (q4.1.getD 0 .undef)), (proj 2 (q4.1.getD 0 .undef)), (proj 3 (q4.1.getD 0 .undef)), (proj 4 (q4.1.getD 0 .undef)), (proj 5 (q4.1.getD 0 .undef)), (proj 6 (q4.1.getD 0 .undef)), (proj 7 (q4.1.getD 0 .undef)), (proj 8 (q4.1.getD 0 .undef)), (proj 9 (q4.1.getD 0 .undef)), (proj 10 (q4.1.getD 0 .undef)), (proj 11 (q4.1.getD 0 .undef)), (proj 12 (q4.1.getD 0 .undef)), (proj 13 (q4.1.getD 0 .undef)), (proj 14 (q4.1.getD 0 .undef)), (proj 15 (q4.1.getD 0 .undef)), (proj 16 (q4.1.getD 0 .undef)), (proj 17 (q4.1.getD 0 .undef)), (proj 18 (q4.1.getD 0 .undef)), (proj 19 (q4.1.getD 0 .undef))])], q4.2))) := evP_of [4] (by kernel_rfl)
theorem fix_judge_judging_fits (x0 : Nat) (x1 : DV) (x2 : DV) (x3 : DV) (x4 : DV) (x5 : DV) (sg : List SObj) : (run cfg).r F_judge_judging_fits [(.undef, (.ptr x0 0)), (x1, .val), (x2, .val), (x3, .val), (x4, .val), (x5, .val)] sg = P_judge_judging_fits (run cfg) x0 x1 x2 x3 x4 x5 sg :=
  (fix_raw (C := cfg) (f := F_judge_judging_fits) (s := sig_judge_judging_fits) (fn := Try.f188) (c := code_judge_judging_fits) (by kernel_rfl) Try.func188 (by kernel_rfl)).trans (by kernel_rfl)
theorem call_judge_judging_fits (x0 : Nat) (x1 : DV) (x2 : DV) (x3 : DV) (x4 : DV) (x5 : DV) (sg : List SObj) {q : List DV × List SObj} (h : P_judge_judging_fits (run cfg) x0 x1 x2 x3 x4 x5 sg = some q) : (run cfg).r F_judge_judging_fits [(.undef, (.ptr x0 0)), (x1, .val), (x2, .val), (x3, .val), (x4, .val), (x5, .val)] sg = some q := (fix_judge_judging_fits x0 x1 x2 x3 x4 x5 sg).trans h

/-! ### judge_one -/
noncomputable def code_judge_one : Code := Try.f189.body.getD .skip
noncomputable def P_judge_one (R : Orc) (x0 : DV) (x1 : DV) : Option DV := evP cfg R fl_judge_one (retP cfg.P Try.f189) [] code_judge_one (initSt Try.f189 [(x0, .val), (x1, .val)] [])
theorem eq_judge_one (R : Orc) (x0 : DV) (x1 : DV) : P_judge_one R x0 x1 =
  (og (isAggN 3 x0) <|
  ob (dBin .eql (proj 0 x0) (.int .i64 0)) fun d1 =>
  oif d1
   (ob (dIdx 3 x1 (.int .i64 0)) fun d2 =>
   some (.agg [(proj 0 d2), (proj 1 d2), (proj 2 d2)]))
   (some (.agg [(proj 0 x0), (proj 1 x0), (proj 2 x0)]))) := evP_of [] (by kernel_rfl)
theorem fix_judge_one (x0 : DV) (x1 : DV) : (run cfg).p F_judge_one [x0, x1] = P_judge_one (run cfg) x0 x1 :=
  (fix_pure (C := cfg) (f := F_judge_one) (fn := Try.f189) (c := code_judge_one) (by kernel_rfl) Try.func189 (by kernel_rfl)).trans (by kernel_rfl)
theorem call_judge_one (x0 : DV) (x1 : DV) {d : DV} (h : P_judge_one (run cfg) x0 x1 = some d) : (run cfg).p F_judge_one [x0, x1] = some d := (fix_judge_one x0 x1).trans h

/-! ### judge_with -/
noncomputable def code_judge_with : Code := Try.f190.body.getD .skip
noncomputable def P_judge_with (R : Orc) (x0 : DV) (x1 : DV) (sg : List SObj) : Option (List DV × List SObj) := evP cfg R fl_judge_with (retR cfg.P Try.f190 sig_judge_with) [] code_judge_with (initSt Try.f190 [(x0, .val), (x1, .val)] sg)
theorem eq_judge_with (R : Orc) (x0 : DV) (x1 : DV) (sg : List SObj) : P_judge_with R x0 x1 sg =
  (ob (dLen x0) fun d1 =>
  ob (dLen x0) fun d2 =>
  ob (dSlice3 5 x0 none d1 d2) fun d3 =>
  ob (dApp 5 d3 x1) fun d4 =>
  some ([d4], sg)) := evP_of [] (by kernel_rfl)
theorem fix_judge_with (x0 : DV) (x1 : DV) (sg : List SObj) : (run cfg).r F_judge_with [(x0, .val), (x1, .val)] sg = P_judge_with (run cfg) x0 x1 sg :=
  (fix_raw (C := cfg) (f := F_judge_with) (s := sig_judge_with) (fn := Try.f190) (c := code_judge_with) (by kernel_rfl) Try.func190 (by kernel_rfl)).trans (by kernel_rfl)
theorem call_judge_with (x0 : DV) (x1 : DV) (sg : List SObj) {q : List DV × List SObj} (h : P_judge_with (run cfg) x0 x1 sg = some q) : (run cfg).r F_judge_with [(x0, .val), (x1, .val)] sg = some q := (fix_judge_with x0 x1 sg).trans h

/-! ### judge_fun -/
noncomputable def code_judge_fun : Code := Try.f191.body.getD .skip
noncomputable def P_judge_fun (R : Orc) (x0 : DV) (x1 : DV) : Option DV := evP cfg R fl_judge_fun (retP cfg.P Try.f191) [] code_judge_fun (initSt Try.f191 [(x0, .val), (x1, .val)] [])
theorem eq_judge_fun (R : Orc) (x0 : DV) (x1 : DV) : P_judge_fun R x0 x1 =
  (og (isAggN 3 x0) <|
  og (isAggN 3 x1) <|
  some (.agg [(.int .i64 9), (.int .i64 0), (.list 3 [(.agg [(proj 0 x0), (proj 1 x0), (proj 2 x0)]), (.agg [(proj 0 x1), (proj 1 x1), (proj 2 x1)])])])) := evP_of [] (by kernel_rfl)
theorem fix_judge_fun (x0 : DV) (x1 : DV) : (run cfg).p F_judge_fun [x0, x1] = P_judge_fun (run cfg) x0 x1 :=
  (fix_pure (C := cfg) (f := F_judge_fun) (fn := Try.f191) (c := code_judge_fun) (by kernel_rfl) Try.func191 (by kernel_rfl)).trans (by kernel_rfl)
theorem call_judge_fun (x0 : DV) (x1 : DV) {d : DV} (h : P_judge_fun (run cfg) x0 x1 = some d) : (run cfg).p F_judge_fun [x0, x1] = some d := (fix_judge_fun x0 x1).trans h

/-! ### judge_judging_more -/
noncomputable def code_judge_judging_more : Code := Try.f192.body.getD .skip
noncomputable def P_judge_judging_more (R : Orc) (x0 : Nat) (x1 : DV) (x2 : DV) (x3 : DV) (sg : List SObj) : Option (List DV × List SObj) := evP cfg R fl_judge_judging_more (retR cfg.P Try.f192 sig_judge_judging_more) [] code_judge_judging_more (initSt Try.f192 [(.undef, (.ptr x0 0)), (x1, .val), (x2, .val), (x3, .val)] sg)
noncomputable def P_judge_judging_more_25 (R : Orc) (t0i : Nat) (t3 : DV) (b5 : DV) (b6 : DV) (b8_0 : DV) (b8_1 : DV) (b8_2 : DV) (b8_3 : DV) (b8_4 : DV) (b8_5 : DV) (b8_6 : DV) (b8_7 : DV) (b8_8 : DV) (b8_9 : DV) (b8_10 : DV) (b8_11 : DV) (b8_12 : DV) (b8_13 : DV) (b8_14 : DV) (b8_15 : DV) (b8_16 : DV) (b8_17 : DV) (b8_18 : DV) (b8_19 : DV) (b8_20 : DV) (b8_21 : DV) (b8_22 : DV) (b13_0 : DV) (b13_1 : DV) (b13_2 : DV) (b14_0 : DV) (b14_1 : DV) (b14_2 : DV) (sg : List SObj) : Option (List DV × List SObj) := evP cfg R fl_judge_judging_more (retR cfg.P Try.f192 sig_judge_judging_more) [true, true, true, true] code_judge_judging_more ⟨spread .undef 124 0 [(3, t3)], spread .val 124 0 [(0, (.ptr t0i 0)), (5, (.loc 5 0)), (6, (.loc 6 0)), (8, (.loc 8 0)), (13, (.loc 13 0)), (14, (.loc 14 0))], spread none 124 0 [(5, some [((proj 0 b5), .val), ((proj 1 b5), .val), ((proj 2 b5), .val), ((proj 3 b5), .val), ((proj 4 b5), .val), ((proj 5 b5), .val), ((proj 6 b5), .val), ((proj 7 b5), .val), ((proj 8 b5), .val), ((proj 9 b5), .val), ((proj 10 b5), .val), ((proj 11 b5), .val), ((proj 12 b5), .val), ((proj 13 b5), .val), ((proj 14 b5), .val), ((proj 15 b5), .val)]), (6, some [((proj 0 b6), .val), ((proj 1 b6), .val), ((proj 2 b6), .val)]), (8, some [(b8_0, .val), (b8_1, .val), (b8_2, .val), (b8_3, .val), (b8_4, .val), (b8_5, .val), (b8_6, .val), (b8_7, .val), (b8_8, .val), (b8_9, .val), (b8_10, .val), (b8_11, .val), (b8_12, .val), (b8_13, .val), (b8_14, .val), (b8_15, .val), (b8_16, .val), (b8_17, .val), (b8_18, .val), (b8_19, .val), (b8_20, .val), (b8_21, .val), (b8_22, .val)]), (13, some [(b13_0, .val), (b13_1, .val), (b13_2, .val)]), (14, some [(b14_0, .val), (b14_1, .val), (b14_2, .val)])], sg⟩
set_option maxRecDepth 100000 in
theorem eq_judge_judging_more (R : Orc) (x0 : Nat) (x1 : DV) (x2 : DV) (x3 : DV) (sg : List SObj) : P_judge_judging_more R x0 x1 x2 x3 sg =
  (og (isAggN 16 x1) <|
  og (isAggN 3 x2) <|
  ob (dBin .eql (proj 0 x1) (.int .i64 10)) fun d1 =>
  oif d1
   (ob (R.r F_judge_judging_app [(.undef, (.ptr x0 0)), ((.agg [(proj 0 x1), (proj 1 x1), (proj 2 x1), (proj 3 x1), (proj 4 x1), (proj 5 x1), (proj 6 x1), (proj 7 x1), (proj 8 x1), (proj 9 x1), (proj 10 x1), (proj 11 x1), (proj 12 x1), (proj 13 x1), (proj 14 x1), (proj 15 x1)]), .val), ((.agg [(proj 0 x2), (proj 1 x2), (proj 2 x2)]), .val), (x3, .val)] sg) fun q2 =>
   og (isAggN 23 (q2.1.getD 0 .undef)) <|
   some ([(.agg [(proj 0 (q2.1.getD 0 .undef)), (proj 1 (q2.1.getD 0 .undef)), (proj 2 (q2.1.getD 0 .undef)), (proj 3 (q2.1.getD 0 .undef)), (proj 4 (q2.1.getD 0 .undef)), (proj 5 (q2.1.getD 0 .undef)), (proj 6 (q2.1.getD 0 .undef)), (proj 7 (q2.1.getD 0 .undef)), (proj 8 (q2.1.getD 0 .undef)), (proj 9 (q2.1.getD 0 .undef)), (proj 10 (q2.1.getD 0 .undef)), (proj 11 (q2.1.getD 0 .undef)), (proj 12 (q2.1.getD 0 .undef)), (proj 13 (q2.1.getD 0 .undef)), (proj 14 (q2.1.getD 0 .undef)), (proj 15 (q2.1.getD 0 .undef)), (proj 16 (q2.1.getD 0 .undef)), (proj 17 (q2.1.getD 0 .undef)), (proj 18 (q2.1.getD 0 .undef)), (proj 19 (q2.1.getD 0 .undef)), (proj 20 (q2.1.getD 0 .undef)), (proj 21 (q2.1.getD 0 .undef)), (proj 22 (q2.1.getD 0 .undef))])], q2.2))
   (ob (dBin .eql (proj 0 x1) (.int .i64 11)) fun d3 =>
   oif d3
    (ob (R.r F_judge_judging_let [(.undef, (.ptr x0 0)), ((.agg [(proj 0 x1), (proj 1 x1), (proj 2 x1), (proj 3 x1), (proj 4 x1), (proj 5 x1), (proj 6 x1), (proj 7 x1), (proj 8 x1), (proj 9 x1), (proj 10 x1), (proj 11 x1), (proj 12 x1), (proj 13 x1), (proj 14 x1), (proj 15 x1)]), .val), ((.agg [(proj 0 x2), (proj 1 x2), (proj 2 x2)]), .val), (x3, .val)] sg) fun q4 =>
    og (isAggN 23 (q4.1.getD 0 .undef)) <|
    some ([(.agg [(proj 0 (q4.1.getD 0 .undef)), (proj 1 (q4.1.getD 0 .undef)), (proj 2 (q4.1.getD 0 .undef)), (proj 3 (q4.1.getD 0 .undef)), (proj 4 (q4.1.getD 0 .undef)), (proj 5 (q4.1.getD 0 .undef)), (proj 6 (q4.1.getD 0 .undef)), (proj 7 (q4.1.getD 0 .undef)), (proj 8 (q4.1.getD 0 .undef)), (proj 9 (q4.1.getD 0 .undef)), (proj 10 (q4.1.getD 0 .undef)), (proj 11 (q4.1.getD 0 .undef)), (proj 12 (q4.1.getD 0 .undef)), (proj 13 (q4.1.getD 0 .undef)), (proj 14 (q4.1.getD 0 .undef)), (proj 15 (q4.1.getD 0 .undef)), (proj 16 (q4.1.getD 0 .undef)), (proj 17 (q4.1.getD 0 .undef)), (proj 18 (q4.1.getD 0 .undef)), (proj 19 (q4.1.getD 0 .undef)), (proj 20 (q4.1.getD 0 .undef)), (proj 21 (q4.1.getD 0 .undef)), (proj 22 (q4.1.getD 0 .undef))])], q4.2))
    (ob (dBin .eql (proj 0 x1) (.int .i64 12)) fun d5 =>
    oif d5
     (ob (R.r F_judge_judging_rec [(.undef, (.ptr x0 0)), ((.agg [(proj 0 x1), (proj 1 x1), (proj 2 x1), (proj 3 x1), (proj 4 x1), (proj 5 x1), (proj 6 x1), (proj 7 x1), (proj 8 x1), (proj 9 x1), (proj 10 x1), (proj 11 x1), (proj 12 x1), (proj 13 x1), (proj 14 x1), (proj 15 x1)]), .val), ((.agg [(proj 0 x2), (proj 1 x2), (proj 2 x2)]), .val), (x3, .val)] sg) fun q6 =>
     og (isAggN 23 (q6.1.getD 0 .undef)) <|
     some ([(.agg [(proj 0 (q6.1.getD 0 .undef)), (proj 1 (q6.1.getD 0 .undef)), (proj 2 (q6.1.getD 0 .undef)), (proj 3 (q6.1.getD 0 .undef)), (proj 4 (q6.1.getD 0 .undef)), (proj 5 (q6.1.getD 0 .undef)), (proj 6 (q6.1.getD 0 .undef)), (proj 7 (q6.1.getD 0 .undef)), (proj 8 (q6.1.getD 0 .undef)), (proj 9 (q6.1.getD 0 .undef)), (proj 10 (q6.1.getD 0 .undef)), (proj 11 (q6.1.getD 0 .undef)), (proj 12 (q6.1.getD 0 .undef)), (proj 13 (q6.1.getD 0 .undef)), (proj 14 (q6.1.getD 0 .undef)), (proj 15 (q6.1.getD 0 .undef)), (proj 16 (q6.1.getD 0 .undef)), (proj 17 (q6.1.getD 0 .undef)), (proj 18 (q6.1.getD 0 .undef)), (proj 19 (q6.1.getD 0 .undef)), (proj 20 (q6.1.getD 0 .undef)), (proj 21 (q6.1.getD 0 .undef)), (proj 22 (q6.1.getD 0 .undef))])], q6.2))
     (ob (dBin .eql (proj 0 x1) (.int .i64 13)) fun d7 =>
     oif d7
      (ob (dIdx 3 (proj 0 x2) (.int .i64 0)) fun d8 =>
      ob (R.r F_judge_judging_fits [(.undef, (.ptr x0 0)), ((.agg [(proj 0 x1), (proj 1 x1), (proj 2 x1), (proj 3 x1), (proj 4 x1), (proj 5 x1), (proj 6 x1), (proj 7 x1), (proj 8 x1), (proj 9 x1), (proj 10 x1), (proj 11 x1), (proj 12 x1), (proj 13 x1), (proj 14 x1), (proj 15 x1)]), .val), ((.agg [(proj 0 x2), (proj 1 x2), (proj 2 x2)]), .val), ((.int .i64 0), .val), (x3, .val), ((.agg [(.int .i64 2), (.int .i64 0), (.list 3 [])]), .val)] sg) fun q9 =>
      og (isAggN 20 (q9.1.getD 0 .undef)) <|
      ob (R.r F_judge_judging_fits [(.undef, (.ptr x0 0)), ((.agg [(proj 0 x1), (proj 1 x1), (proj 2 x1), (proj 3 x1), (proj 4 x1), (proj 5 x1), (proj 6 x1), (proj 7 x1), (proj 8 x1), (proj 9 x1), (proj 10 x1), (proj 11 x1), (proj 12 x1), (proj 13 x1), (proj 14 x1), (proj 15 x1)]), .val), ((.agg [(proj 0 x2), (proj 1 x2), (proj 2 x2)]), .val), ((.int .i64 1), .val), (x3, .val), ((.agg [(proj 0 d8), (proj 1 d8), (proj 2 d8)]), .val)] q9.2) fun q10 =>
      og (isAggN 20 (q10.1.getD 0 .undef)) <|
      ob (R.r F_judge_judging_fits [(.undef, (.ptr x0 0)), ((.agg [(proj 0 x1), (proj 1 x1), (proj 2 x1), (proj 3 x1), (proj 4 x1), (proj 5 x1), (proj 6 x1), (proj 7 x1), (proj 8 x1), (proj 9 x1), (proj 10 x1), (proj 11 x1), (proj 12 x1), (proj 13 x1), (proj 14 x1), (proj 15 x1)]), .val), ((.agg [(proj 0 x2), (proj 1 x2), (proj 2 x2)]), .val), ((.int .i64 2), .val), (x3, .val), ((.agg [(proj 0 d8), (proj 1 d8), (proj 2 d8)]), .val)] q10.2) fun q11 =>
      og (isAggN 20 (q11.1.getD 0 .undef)) <|
      some ([(.agg [(proj 0 d8), (proj 1 d8), (proj 2 d8), (.int .i64 13), (.int .i64 0), (.int .i64 0), (.str ⟨#[]⟩), (.str ⟨#[]⟩), (.int .i64 0), (.str ⟨#[]⟩), (.int .i64 0), (.int .i64 0), (.bool false), (.list 1 []), (.int .i64 0), (.int .i64 0), (.list 3 []), (.int .i64 0), (.int .i64 0), (.list 3 []), (.list 3 []), (.list 7 []), (.list 20 [(.agg [(proj 0 (q9.1.getD 0 .undef)), (proj 1 (q9.1.getD 0 .undef)), (proj 2 (q9.1.getD 0 .undef)), (proj 3 (q9.1.getD 0 .undef)), (proj 4 (q9.1.getD 0 .undef)), (proj 5 (q9.1.getD 0 .undef)), (proj 6 (q9.1.getD 0 .undef)), (proj 7 (q9.1.getD 0 .undef)), (proj 8 (q9.1.getD 0 .undef)), (proj 9 (q9.1.getD 0 .undef)), (proj 10 (q9.1.getD 0 .undef)), (proj 11 (q9.1.getD 0 .undef)), (proj 12 (q9.1.getD 0 .undef)), (proj 13 (q9.1.getD 0 .undef)), (proj 14 (q9.1.getD 0 .undef)), (proj 15 (q9.1.getD 0 .undef)), (proj 16 (q9.1.getD 0 .undef)), (proj 17 (q9.1.getD 0 .undef)), (proj 18 (q9.1.getD 0 .undef)), (proj 19 (q9.1.getD 0 .undef))]), (.agg [(proj 0 (q10.1.getD 0 .undef)), (proj 1 (q10.1.getD 0 .undef)), (proj 2 (q10.1.getD 0 .undef)), (proj 3 (q10.1.getD 0 .undef)), (proj 4 (q10.1.getD 0 .undef)), (proj 5 (q10.1.getD 0 .undef)), (proj 6 (q10.1.getD 0 .undef)), (proj 7 (q10.1.getD 0 .undef)), (proj 8 (q10.1.getD 0 .undef)), (proj 9 (q10.1.getD 0 .undef)), (proj 10 (q10.1.getD 0 .undef)), (proj 11 (q10.1.getD 0 .undef)), (proj 12 (q10.1.getD 0 .undef)), (proj 13 (q10.1.getD 0 .undef)), (proj 14 (q10.1.getD 0 .undef)), (proj 15 (q10.1.getD 0 .undef)), (proj 16 (q10.1.getD 0 .undef)), (proj 17 (q10.1.getD 0 .undef)), (proj 18 (q10.1.getD 0 .undef)), (proj 19 (q10.1.getD 0 .undef))]), (.agg [(proj 0 (q11.1.getD 0 .undef)), (proj 1 (q11.1.getD 0 .undef)), (proj 2 (q11.1.getD 0 .undef)), (proj 3 (q11.1.getD 0 .undef)), (proj 4 (q11.1.getD 0 .undef)), (proj 5 (q11.1.getD 0 .undef)), (proj 6 (q11.1.getD 0 .undef)), (proj 7 (q11.1.getD 0 .undef)), (proj 8 (q11.1.getD 0 .undef)), (proj 9 (q11.1.getD 0 .undef)), (proj 10 (q11.1.getD 0 .undef)), (proj 11 (q11.1.getD 0 .undef)), (proj 12 (q11.1.getD 0 .undef)), (proj 13 (q11.1.getD 0 .undef)), (proj 14 (q11.1.getD 0 .undef)), (proj 15 (q11.1.getD 0 .undef)), (proj 16 (q11.1.getD 0 .undef)), (proj 17 (q11.1.getD 0 .undef)), (proj 18 (q11.1.getD 0 .undef)), (proj 19 (q11.1.getD 0 .undef))])])])], q11.2))
      (ob (dBin .eql (proj 0 x1) (.int .i64 14)) fun d12 =>
      oif d12
       (ob (R.r F_judge_judging_match [(.undef, (.ptr x0 0)), ((.agg [(proj 0 x1), (proj 1 x1), (proj 2 x1), (proj 3 x1), (proj 4 x1), (proj 5 x1), (proj 6 x1), (proj 7 x1), (proj 8 x1), (proj 9 x1), (proj 10 x1), (proj 11 x1), (proj 12 x1), (proj 13 x1), (proj 14 x1), (proj 15 x1)]), .val), ((.agg [(proj 0 x2), (proj 1 x2), (proj 2 x2)]), .val), (x3, .val)] sg) fun q13 =>
       og (isAggN 23 (q13.1.getD 0 .undef)) <|
       some ([(.agg [(proj 0 (q13.1.getD 0 .undef)), (proj 1 (q13.1.getD 0 .undef)), (proj 2 (q13.1.getD 0 .undef)), (proj 3 (q13.1.getD 0 .undef)), (proj 4 (q13.1.getD 0 .undef)), (proj 5 (q13.1.getD 0 .undef)), (proj 6 (q13.1.getD 0 .undef)), (proj 7 (q13.1.getD 0 .undef)), (proj 8 (q13.1.getD 0 .undef)), (proj 9 (q13.1.getD 0 .undef)), (proj 10 (q13.1.getD 0 .undef)), (proj 11 (q13.1.getD 0 .undef)), (proj 12 (q13.1.getD 0 .undef)), (proj 13 (q13.1.getD 0 .undef)), (proj 14 (q13.1.getD 0 .undef)), (proj 15 (q13.1.getD 0 .undef)), (proj 16 (q13.1.getD 0 .undef)), (proj 17 (q13.1.getD 0 .undef)), (proj 18 (q13.1.getD 0 .undef)), (proj 19 (q13.1.getD 0 .undef)), (proj 20 (q13.1.getD 0 .undef)), (proj 21 (q13.1.getD 0 .undef)), (proj 22 (q13.1.getD 0 .undef))])], q13.2))
       (ob (dBin .eql (proj 0 x1) (.int .i64 15)) fun d14 =>
       oif d14
        (ob (R.r F_judge_judging_fits [(.undef, (.ptr x0 0)), ((.agg [(proj 0 x1), (proj 1 x1), (proj 2 x1), (proj 3 x1), (proj 4 x1), (proj 5 x1), (proj 6 x1), (proj 7 x1), (proj 8 x1), (proj 9 x1), (proj 10 x1), (proj 11 x1), (proj 12 x1), (proj 13 x1), (proj 14 x1), (proj 15 x1)]), .val), ((.agg [(proj 0 x2), (proj 1 x2), (proj 2 x2)]), .val), ((.int .i64 0), .val), (x3, .val), ((.agg [(proj 8 x1), (proj 9 x1), (proj 10 x1)]), .val)] sg) fun q15 =>
        og (isAggN 20 (q15.1.getD 0 .undef)) <|
        some ([(.agg [(proj 8 x1), (proj 9 x1), (proj 10 x1), (proj 0 (q15.1.getD 0 .undef)), (proj 1 (q15.1.getD 0 .undef)), (proj 2 (q15.1.getD 0 .undef)), (proj 3 (q15.1.getD 0 .undef)), (proj 4 (q15.1.getD 0 .undef)), (proj 5 (q15.1.getD 0 .undef)), (proj 6 (q15.1.getD 0 .undef)), (proj 7 (q15.1.getD 0 .undef)), (proj 8 (q15.1.getD 0 .undef)), (proj 9 (q15.1.getD 0 .undef)), (proj 10 (q15.1.getD 0 .undef)), (proj 11 (q15.1.getD 0 .undef)), (proj 12 (q15.1.getD 0 .undef)), (proj 13 (q15.1.getD 0 .undef)), (proj 14 (q15.1.getD 0 .undef)), (proj 15 (q15.1.getD 0 .undef)), (proj 16 (q15.1.getD 0 .undef)), (proj 17 (q15.1.getD 0 .undef)), (proj 18 (q15.1.getD 0 .undef)), (proj 19 (q15.1.getD 0 .undef))])], q15.2))
        (ob (dBin .eql (proj 7 x1) (.int .i64 5)) fun d16 =>
        oif d16
         (P_judge_judging_more_25 R x0 x3 x1 x2 (.int .i64 0) (.int .i64 0) (.list 3 []) (.int .i64 0) (.int .i64 0) (.int .i64 0) (.str ⟨#[]⟩) (.str ⟨#[]⟩) (.int .i64 0) (.str ⟨#[]⟩) (.int .i64 0) (.int .i64 0) (.bool false) (.list 1 []) (.int .i64 0) (.int .i64 0) (.list 3 []) (.int .i64 0) (.int .i64 0) (.list 3 []) (.list 3 []) (.list 7 []) (.list 20 []) (.int .i64 1) (.int .i64 0) (.list 3 []) (.int .i64 2) (.int .i64 0) (.list 3 []) sg)
         (ob (dBin .eql (proj 7 x1) (.int .i64 6)) fun d17 =>
         oif d17
          (P_judge_judging_more_25 R x0 x3 x1 x2 (.int .i64 0) (.int .i64 0) (.list 3 []) (.int .i64 0) (.int .i64 0) (.int .i64 0) (.str ⟨#[]⟩) (.str ⟨#[]⟩) (.int .i64 0) (.str ⟨#[]⟩) (.int .i64 0) (.int .i64 0) (.bool false) (.list 1 []) (.int .i64 0) (.int .i64 0) (.list 3 []) (.int .i64 0) (.int .i64 0) (.list 3 []) (.list 3 []) (.list 7 []) (.list 20 []) (.int .i64 1) (.int .i64 0) (.list 3 []) (.int .i64 2) (.int .i64 0) (.list 3 []) sg)
          (ob (dBin .eql (proj 7 x1) (.int .i64 7)) fun d18 =>
          oif d18
           (P_judge_judging_more_25 R x0 x3 x1 x2 (.int .i64 0) (.int .i64 0) (.list 3 []) (.int .i64 0) (.int .i64 0) (.int .i64 0) (.str ⟨#[]⟩) (.str ⟨#[]⟩) (.int .i64 0) (.str ⟨#[]⟩) (.int .i64 0) (.int .i64 0) (.bool false) (.list 1 []) (.int .i64 0) (.int .i64 0) (.list 3 []) (.int .i64 0) (.int .i64 0) (.list 3 []) (.list 3 []) (.list 7 []) (.list 20 []) (.int .i64 3) (.int .i64 0) (.list 3 []) (.int .i64 2) (.int .i64 0) (.list 3 []) sg)
           (P_judge_judging_more_25 R x0 x3 x1 x2 (.int .i64 0) (.int .i64 0) (.list 3 []) (.int .i64 0) (.int .i64 0) (.int .i64 0) (.str ⟨#[]⟩) (.str ⟨#[]⟩) (.int .i64 0) (.str ⟨#[]⟩) (.int .i64 0) (.int .i64 0) (.bool false) (.list 1 []) (.int .i64 0) (.int .i64 0) (.list 3 []) (.int .i64 0) (.int .i64 0) (.list 3 []) (.list 3 []) (.list 7 []) (.list 20 []) (.int .i64 1) (.int .i64 0) (.list 3 []) (.int .i64 1) (.int .i64 0) (.list 3 []) sg)))))))))) := evP_of [25] (by kernel_rfl)
theorem eq_judge_judging_more_25 (R : Orc) (t0i : Nat) (t3 : DV) (b5 : DV) (b6 : DV) (b8_0 : DV) (b8_1 : DV) (b8_2 : DV) (b8_3 : DV) (b8_4 : DV) (b8_5 : DV) (b8_6 : DV) (b8_7 : DV) (b8_8 : DV) (b8_9 : DV) (b8_10 : DV) (b8_11 : DV) (b8_12 : DV) (b8_13 : DV) (b8_14 : DV) (b8_15 : DV) (b8_16 : DV) (b8_17 : DV) (b8_18 : DV) (b8_19 : DV) (b8_20 : DV) (b8_21 : DV) (b8_22 : DV) (b13_0 : DV) (b13_1 : DV) (b13_2 : DV) (b14_0 : DV) (b14_1 : DV) (b14_2 : DV) (sg : List SObj) : P_judge_judging_more_25 R t0i t3 b5 b6 b8_0 b8_1 b8_2 b8_3 b8_4 b8_5 b8_6 b8_7 b8_8 b8_9 b8_10 b8_11 b8_12 b8_13 b8_14 b8_15 b8_16 b8_17 b8_18 b8_19 b8_20 b8_21 b8_22 b13_0 b13_1 b13_2 b14_0 b14_1 b14_2 sg =
  (ob (R.r F_judge_judging_fits [(.undef, (.ptr t0i 0)), ((.agg [(proj 0 b5), (proj 1 b5), (proj 2 b5), (proj 3 b5), (proj 4 b5), (proj 5 b5), (proj 6 b5), (proj 7 b5), (proj 8 b5), (proj 9 b5), (proj 10 b5), (proj 11 b5), (proj 12 b5), (proj 13 b5), (proj 14 b5), (proj 15 b5)]), .val), ((.agg [(proj 0 b6), (proj 1 b6), (proj 2 b6)]), .val), ((.int .i64 0), .val), (t3, .val), ((.agg [b13_0, b13_1, b13_2]), .val)] sg) fun q1 =>
  og (isAggN 20 (q1.1.getD 0 .undef)) <|
  ob (R.r F_judge_judging_fits [(.undef, (.ptr t0i 0)), ((.agg [(proj 0 b5), (proj 1 b5), (proj 2 b5), (proj 3 b5), (proj 4 b5), (proj 5 b5), (proj 6 b5), (proj 7 b5), (proj 8 b5), (proj 9 b5), (proj 10 b5), (proj 11 b5), (proj 12 b5), (proj 13 b5), (proj 14 b5), (proj 15 b5)]), .val), ((.agg [(proj 0 b6), (proj 1 b6), (proj 2 b6)]), .val), ((.int .i64 1), .val), (t3, .val), ((.agg [b13_0, b13_1, b13_2]), .val)] q1.2) fun q2 =>
  og (isAggN 20 (q2.1.getD 0 .undef)) <|
  og (isCell (proj 7 b5)) <|
  some ([(.agg [b14_0, b14_1, b14_2, (.int .i64 15), (proj 1 b5), (proj 2 b5), (.str ⟨#[]⟩), (.str ⟨#[]⟩), (.int .i64 0), (.str ⟨#[]⟩), (proj 7 b5), (.int .i64 0), (.bool false), (.list 1 []), (.int .i64 0), (.int .i64 0), (.list 3 []), (.int .i64 0), (.int .i64 0), (.list 3 []), (.list 3 []), (.list 7 []), (.list 20 [(.agg [(proj 0 (q1.1.getD 0 .undef)), (proj 1 (q1.1.getD 0 .undef)), (proj 2 (q1.1.getD 0 .undef)), (proj 3 (q1.1.getD 0 .undef)), (proj 4 (q1.1.getD 0 .undef)), (proj 5 (q1.1.getD 0 .undef)), (proj 6 (q1.1.getD 0 .undef)), (proj 7 (q1.1.getD 0 .undef)), (proj 8 (q1.1.getD 0 .undef)), (proj 9 (q1.1.getD 0 .undef)), (proj 10 (q1.1.getD 0 .undef)), (proj 11 (q1.1.getD 0 .undef)), (proj 12 (q1.1.getD 0 .undef)), (proj 13 (q1.1.getD 0 .undef)), (proj 14 (q1.1.getD 0 .undef)), (proj 15 (q1.1.getD 0 .undef)), (proj 16 (q1.1.getD 0 .undef)), (proj 17 (q1.1.getD 0 .undef)), (proj 18 (q1.1.getD 0 .undef)), (proj 19 (q1.1.getD 0 .undef))]), (.agg [(proj 0 (q2.1.getD 0 .undef)), (proj 1 (q2.1.getD 0 .undef)), (proj 2 (q2.1.getD 0 .undef)), (proj 3 (q2.1.getD 0 .undef)), (proj 4 (q2.1.getD 0 .undef)), (proj 5 (q2.1.getD 0 .undef)), (proj 6 (q2.1.getD 0 .undef)), (proj 7 (q2.1.getD 0 .undef)), (proj 8 (q2.1.getD 0 .undef)), (proj 9 (q2.1.getD 0 .undef)), (proj 10 (q2.1.getD 0 .undef)), (proj 11 (q2.1.getD 0 .undef)), (proj 12 (q2.1.getD 0 .undef)), (proj 13 (q2.1.getD 0 .undef)), (proj 14 (q2.1.getD 0 .undef)), (proj 15 (q2.1.getD 0 .undef)), (proj 16 (q2.1.getD 0 .undef)), (proj 17 (q2.1.getD 0 .undef)), (proj 18 (q2.1.getD 0 .undef)), (proj 19 (q2.1.getD 0 .undef))])])])], q2.2)) := evP_of [25] (by kernel_rfl)
theorem fix_judge_judging_more (x0 : Nat) (x1 : DV) (x2 : DV) (x3 : DV) (sg : List SObj) : (run cfg).r F_judge_judging_more [(.undef, (.ptr x0 0)), (x1, .val), (x2, .val), (x3, .val)] sg = P_judge_judging_more (run cfg) x0 x1 x2 x3 sg :=
  (fix_raw (C := cfg) (f := F_judge_judging_more) (s := sig_judge_judging_more) (fn := Try.f192) (c := code_judge_judging_more) (by kernel_rfl) Try.func192 (by kernel_rfl)).trans (by kernel_rfl)
theorem call_judge_judging_more (x0 : Nat) (x1 : DV) (x2 : DV) (x3 : DV) (sg : List SObj) {q : List DV × List SObj} (h : P_judge_judging_more (run cfg) x0 x1 x2 x3 sg = some q) : (run cfg).r F_judge_judging_more [(.undef, (.ptr x0 0)), (x1, .val), (x2, .val), (x3, .val)] sg = some q := (fix_judge_judging_more x0 x1 x2 x3 sg).trans h

/-! ### typ_without -/
noncomputable def code_typ_without : Code := Try.f193.body.getD .skip
noncomputable def P_typ_without (R : Orc) (x0 : DV) (x1 : DV) : Option DV := evP cfg R fl_typ_without (retP cfg.P Try.f193) [] code_typ_without (initSt Try.f193 [(x0, .val), (x1, .val)] [])
noncomputable def P_typ_without_4h (R : Orc) (t1 : DV) (t12 : DV) (t13 : DV) (t14 : DV) : Option DV := headP cfg R fl_typ_without (retP cfg.P Try.f193) [true, true, false, true, false] code_typ_without ⟨spread .undef 23 0 [(1, t1), (12, t12), (13, t13), (14, t14)], spread .val 23 0 [], spread none 23 0 [], []⟩
theorem eq_typ_without (R : Orc) (x0 : DV) (x1 : DV) : P_typ_without R x0 x1 =
  (og (isAggN 3 x0) <|
  ob (dBin .eql (proj 0 x0) x1) fun d1 =>
  oif d1
   (some (.bool false))
   (ob (dLen (proj 2 x0)) fun d2 =>
   P_typ_without_4h R x1 (proj 2 x0) d2 (.int .i64 0))) := evP_of [] (by kernel_rfl)
theorem eq_typ_without_4h (R : Orc) (t1 : DV) (t12 : DV) (t13 : DV) (t14 : DV) : P_typ_without_4h R t1 t12 t13 t14 =
  (ob (dBin .lss t14 t13) fun d1 =>
  oif d1
   (ob (dIdx 3 t12 t14) fun d2 =>
   ob (R.p F_typ_without [(.agg [(proj 0 d2), (proj 1 d2), (proj 2 d2)]), t1]) fun d3 =>
   ob (dUn .not d3) fun d4 =>
   oif d4
    (some (.bool false))
    (ob (dBin .add t14 (.int .i64 1)) fun d5 =>
    P_typ_without_4h R t1 t12 t13 d5))
   (some (.bool true))) := headP_of [] (by kernel_rfl)
theorem fix_typ_without (x0 : DV) (x1 : DV) : (run cfg).p F_typ_without [x0, x1] = P_typ_without (run cfg) x0 x1 :=
  (fix_pure (C := cfg) (f := F_typ_without) (fn := Try.f193) (c := code_typ_without) (by kernel_rfl) Try.func193 (by kernel_rfl)).trans (by kernel_rfl)
theorem call_typ_without (x0 : DV) (x1 : DV) {d : DV} (h : P_typ_without (run cfg) x0 x1 = some d) : (run cfg).p F_typ_without [x0, x1] = some d := (fix_typ_without x0 x1).trans h

/-! ### slices_Index__int_int -/
noncomputable def code_slices_Index__int_int : Code := Try.f202.body.getD .skip
noncomputable def P_slices_Index__int_int (R : Orc) (x0 : DV) (x1 : DV) : Option DV := evP cfg R fl_slices_Index__int_int (retP cfg.P Try.f202) [] code_slices_Index__int_int (initSt Try.f202 [(x0, .val), (x1, .val)] [])
noncomputable def P_slices_Index__int_int_2h (R : Orc) (t0 : DV) (t1 : DV) (t7 : DV) (t8 : DV) : Option DV := headP cfg R fl_slices_Index__int_int (retP cfg.P Try.f202) [true, false, true, false] code_slices_Index__int_int ⟨spread .undef 19 0 [(0, t0), (1, t1), (7, t7), (8, t8)], spread .val 19 0 [], spread none 19 0 [], []⟩
theorem eq_slices_Index__int_int (R : Orc) (x0 : DV) (x1 : DV) : P_slices_Index__int_int R x0 x1 =
  (ob (dLen x0) fun d1 =>
  P_slices_Index__int_int_2h R x0 x1 d1 (.int .i64 0)) := evP_of [] (by kernel_rfl)
theorem eq_slices_Index__int_int_2h (R : Orc) (t0 : DV) (t1 : DV) (t7 : DV) (t8 : DV) : P_slices_Index__int_int_2h R t0 t1 t7 t8 =
  (ob (dBin .lss t8 t7) fun d1 =>
  oif d1
   (ob (dIdx 1 t0 t8) fun d2 =>
   og (isLeaf d2) <|
   ob (dBin .eql t1 d2) fun d3 =>
   oif d3
    (some t8)
    (ob (dBin .add t8 (.int .i64 1)) fun d4 =>
    P_slices_Index__int_int_2h R t0 t1 t7 d4))
   (some (.int .i64 (-1)))) := headP_of [] (by kernel_rfl)
theorem fix_slices_Index__int_int (x0 : DV) (x1 : DV) : (run cfg).p F_slices_Index__int_int [x0, x1] = P_slices_Index__int_int (run cfg) x0 x1 :=
  (fix_pure (C := cfg) (f := F_slices_Index__int_int) (fn := Try.f202) (c := code_slices_Index__int_int) (by kernel_rfl) Try.func202 (by kernel_rfl)).trans (by kernel_rfl)
theorem call_slices_Index__int_int (x0 : DV) (x1 : DV) {d : DV} (h : P_slices_Index__int_int (run cfg) x0 x1 = some d) : (run cfg).p F_slices_Index__int_int [x0, x1] = some d := (fix_slices_Index__int_int x0 x1).trans h

/-! ### pats_leaf -/
noncomputable def code_pats_leaf : Code := Try.f203.body.getD .skip
noncomputable def P_pats_leaf (R : Orc) (x0 : DV) : Option DV := evP cfg R fl_pats_leaf (retP cfg.P Try.f203) [] code_pats_leaf (initSt Try.f203 [(x0, .val)] [])
theorem eq_pats_leaf (R : Orc) (x0 : DV) : P_pats_leaf R x0 =
  (ob (dBin .eql x0 (.int .i64 3)) fun d1 =>
  oif d1
   (some (.int .i64 1))
   (ob (dBin .eql x0 (.int .i64 4)) fun d2 =>
   oif d2
    (some (.int .i64 2))
    (ob (dBin .eql x0 (.int .i64 5)) fun d3 =>
    oif d3
     (some (.int .i64 3))
     (ob (dBin .eql x0 (.int .i64 6)) fun d4 =>
     oif d4
      (some (.int .i64 4))
      (ob (dBin .eql x0 (.int .i64 8)) fun d5 =>
      oif d5
       (some (.int .i64 8))
       (some (.int .i64 0))))))) := evP_of [] (by kernel_rfl)
theorem fix_pats_leaf (x0 : DV) : (run cfg).p F_pats_leaf [x0] = P_pats_leaf (run cfg) x0 :=
  (fix_pure (C := cfg) (f := F_pats_leaf) (fn := Try.f203) (c := code_pats_leaf) (by kernel_rfl) Try.func203 (by kernel_rfl)).trans (by kernel_rfl)
theorem call_pats_leaf (x0 : DV) {d : DV} (h : P_pats_leaf (run cfg) x0 = some d) : (run cfg).p F_pats_leaf [x0] = some d := (fix_pats_leaf x0).trans h

end Go.Su

/-
  Equations of the program's functions: by program.
-/
namespace Go.Su
open Go.Proofs
set_option linter.unusedVariables false

/-! ### judge_many -/
noncomputable def code_judge_many : Code := Try.f204.body.getD .skip
noncomputable def P_judge_many (R : Orc) (x0 : DV) (x1 : DV) : Option DV := evP cfg R fl_judge_many (retP cfg.P Try.f204) [] code_judge_many (initSt Try.f204 [(x0, .val), (x1, .val)] [])
noncomputable def P_judge_many_14 (R : Orc) (t4 : DV) (b2 : DV) : Option DV := evP cfg R fl_judge_many (retP cfg.P Try.f204) [true, false, true, false, true, true, true, true, true, true, true, true, true, false] code_judge_many ⟨spread .undef 56 0 [(4, t4)], spread .val 56 0 [(2, (.loc 2 0))], spread none 56 0 [(2, some [((proj 0 b2), .val), ((proj 1 b2), .val), ((proj 2 b2), .val), ((proj 3 b2), .val), ((proj 4 b2), .val), ((proj 5 b2), .val), ((proj 6 b2), .val), ((proj 7 b2), .val), ((proj 8 b2), .val), ((proj 9 b2), .val), ((proj 10 b2), .val), ((proj 11 b2), .val), ((proj 12 b2), .val), ((proj 13 b2), .val), ((proj 14 b2), .val), ((proj 15 b2), .val)])], []⟩
noncomputable def P_judge_many_16 (R : Orc) (t4 : DV) (b2 : DV) : Option DV := evP cfg R fl_judge_many (retP cfg.P Try.f204) [true, false, true, false, true, true, true, true, true, true, true, true, true, false, true] code_judge_many ⟨spread .undef 56 0 [(4, t4)], spread .val 56 0 [(2, (.loc 2 0))], spread none 56 0 [(2, some [((proj 0 b2), .val), ((proj 1 b2), .val), ((proj 2 b2), .val), ((proj 3 b2), .val), ((proj 4 b2), .val), ((proj 5 b2), .val), ((proj 6 b2), .val), ((proj 7 b2), .val), ((proj 8 b2), .val), ((proj 9 b2), .val), ((proj 10 b2), .val), ((proj 11 b2), .val), ((proj 12 b2), .val), ((proj 13 b2), .val), ((proj 14 b2), .val), ((proj 15 b2), .val)])], []⟩
noncomputable def P_judge_many_18 (R : Orc) (t4 : DV) (b2 : DV) : Option DV := evP cfg R fl_judge_many (retP cfg.P Try.f204) [true, false, true, false, true, true, true, true, true, true, true, true, true, false, true, true] code_judge_many ⟨spread .undef 56 0 [(4, t4)], spread .val 56 0 [(2, (.loc 2 0))], spread none 56 0 [(2, some [((proj 0 b2), .val), ((proj 1 b2), .val), ((proj 2 b2), .val), ((proj 3 b2), .val), ((proj 4 b2), .val), ((proj 5 b2), .val), ((proj 6 b2), .val), ((proj 7 b2), .val), ((proj 8 b2), .val), ((proj 9 b2), .val), ((proj 10 b2), .val), ((proj 11 b2), .val), ((proj 12 b2), .val), ((proj 13 b2), .val), ((proj 14 b2), .val), ((proj 15 b2), .val)])], []⟩
set_option maxRecDepth 100000 in
theorem eq_judge_many (R : Orc) (x0 : DV) (x1 : DV) : P_judge_many R x0 x1 =
  (og (isAggN 16 x0) <|
  og (isAggN 5 x1) <|
  ob (dBin .eql (proj 0 x0) (.int .i64 1)) fun d1 =>
  oif d1
   (ob (dLen (proj 4 x1)) fun d2 =>
   some (.tup [d2, (.bool false)]))
   (ob (dBin .eql (proj 0 x0) (.int .i64 7)) fun d3 =>
   oif d3
    (some (.tup [(.int .i64 1), (.bool false)]))
    (ob (dBin .eql (proj 0 x0) (.int .i64 8)) fun d4 =>
    oif d4
     (some (.tup [(.int .i64 1), (.bool false)]))
     (ob (dBin .eql (proj 0 x0) (.int .i64 13)) fun d5 =>
     oif d5
      (some (.tup [(.int .i64 1), (.bool false)]))
      (ob (dBin .eql (proj 0 x0) (.int .i64 14)) fun d6 =>
      oif d6
       (some (.tup [(.int .i64 2), (.bool false)]))
       (ob (dBin .eql (proj 0 x0) (.int .i64 11)) fun d7 =>
       oif d7
        (ob (dBin .eql (proj 8 x0) (.int .i64 0)) fun d8 =>
        ogd d8
         (ob (dIdx 16 (proj 15 x0) (.int .i64 0)) fun d9 =>
         ob (R.p F_tree_Value [(.agg [(proj 0 d9), (proj 1 d9), (proj 2 d9), (proj 3 d9), (proj 4 d9), (proj 5 d9), (proj 6 d9), (proj 7 d9), (proj 8 d9), (proj 9 d9), (proj 10 d9), (proj 11 d9), (proj 12 d9), (proj 13 d9), (proj 14 d9), (proj 15 d9)])]) fun d10 =>
         some (.tup [(.int .i64 0), d10]))
         (some (.tup [(.int .i64 0), (.bool false)]))
         none)
        (ob (dBin .eql (proj 0 x0) (.int .i64 9)) fun d11 =>
        oif d11
         (P_judge_many_14 R (.int .i64 0) x0)
         (ob (dBin .eql (proj 0 x0) (.int .i64 12)) fun d12 =>
         oif d12
          (P_judge_many_14 R (.int .i64 0) x0)
          (some (.tup [(.int .i64 0), (.bool false)])))))))))) := evP_of [14, 16, 18] (by kernel_rfl)
theorem eq_judge_many_14 (R : Orc) (t4 : DV) (b2 : DV) : P_judge_many_14 R t4 b2 =
  (ob (dBin .eql (proj 8 b2) (.int .i64 0)) fun d1 =>
  oif d1
   (ob (dBin .add t4 (.int .i64 1)) fun d2 =>
   P_judge_many_16 R d2 b2)
   (P_judge_many_16 R t4 b2)) := evP_of [14, 16, 18] (by kernel_rfl)
theorem eq_judge_many_16 (R : Orc) (t4 : DV) (b2 : DV) : P_judge_many_16 R t4 b2 =
  (ob (dBin .eql (proj 0 b2) (.int .i64 12)) fun d1 =>
  ogd d1
   (ob (dBin .eql (proj 11 b2) (.int .i64 0)) fun d2 =>
   oif d2
    (ob (dBin .add t4 (.int .i64 1)) fun d3 =>
    P_judge_many_18 R d3 b2)
    (P_judge_many_18 R t4 b2))
   (P_judge_many_18 R t4 b2)
   none) := evP_of [14, 16, 18] (by kernel_rfl)
theorem eq_judge_many_18 (R : Orc) (t4 : DV) (b2 : DV) : P_judge_many_18 R t4 b2 =
  (ob (dBin .eql (proj 0 b2) (.int .i64 12)) fun d1 =>
  some (.tup [t4, d1])) := evP_of [14, 16, 18] (by kernel_rfl)
theorem fix_judge_many (x0 : DV) (x1 : DV) : (run cfg).p F_judge_many [x0, x1] = P_judge_many (run cfg) x0 x1 :=
  (fix_pure (C := cfg) (f := F_judge_many) (fn := Try.f204) (c := code_judge_many) (by kernel_rfl) Try.func204 (by kernel_rfl)).trans (by kernel_rfl)
theorem call_judge_many (x0 : DV) (x1 : DV) {d : DV} (h : P_judge_many (run cfg) x0 x1 = some d) : (run cfg).p F_judge_many [x0, x1] = some d := (fix_judge_many x0 x1).trans h

/-! ### judge_judging_enter -/
noncomputable def code_judge_judging_enter : Code := Try.f205.body.getD .skip
noncomputable def P_judge_judging_enter (R : Orc) (x0 : Nat) (x1 : DV) (x2 : DV) (sg : List SObj) : Option (List DV × List SObj) := evP cfg R fl_judge_judging_enter (retR cfg.P Try.f205 sig_judge_judging_enter) [] code_judge_judging_enter (initSt Try.f205 [(.undef, (.ptr x0 0)), (x1, .val), (x2, .val)] sg)
noncomputable def P_judge_judging_enter_1h (R : Orc) (t0i : Nat) (t2 : DV) (t8 : DV) (t9 : DV) (t10 : DV) (sg : List SObj) : Option (List DV × List SObj) := headP cfg R fl_judge_judging_enter (retR cfg.P Try.f205 sig_judge_judging_enter) [true, false] code_judge_judging_enter ⟨spread .undef 23 0 [(2, t2), (8, t8), (9, t9), (10, t10)], spread .val 23 0 [(0, (.ptr t0i 0))], spread none 23 0 [], sg⟩
theorem eq_judge_judging_enter (R : Orc) (x0 : Nat) (x1 : DV) (x2 : DV) (sg : List SObj) : P_judge_judging_enter R x0 x1 x2 sg =
  (ob (dLen x1) fun d1 =>
  P_judge_judging_enter_1h R x0 x2 x1 d1 (.int .i64 0) sg) := evP_of [] (by kernel_rfl)
theorem eq_judge_judging_enter_1h (R : Orc) (t0i : Nat) (t2 : DV) (t8 : DV) (t9 : DV) (t10 : DV) (sg : List SObj) : P_judge_judging_enter_1h R t0i t2 t8 t9 t10 sg =
  (ob (dBin .lss t10 t9) fun d1 =>
  oif d1
   (ob (dIdx 1 t8 t10) fun d2 =>
   og (isLeaf d2) <|
   ob (sgBox sg t0i) fun c3 =>
   ob (cellMap c3 1) fun i4 =>
   og (isKey false d2 && true) <|
   ob (sgMap sg i4) fun m5 =>
   og (m5.1 == false) <|
   ob (dBin .add ((mGet m5.2 d2).getD (.int .i64 0)) t2) fun d6 =>
   og (isKey false d2 && true && true) <|
   ob (sgMap sg i4) fun m7 =>
   og (m7.1 == false) <|
   ob (dBin .add t10 (.int .i64 1)) fun d8 =>
   P_judge_judging_enter_1h R t0i t2 t8 t9 d8 (sg.set i4 (.map false (mSet m7.2 d2 d6))))
   (some ([], sg))) := headP_of [] (by kernel_rfl)
theorem fix_judge_judging_enter (x0 : Nat) (x1 : DV) (x2 : DV) (sg : List SObj) : (run cfg).r F_judge_judging_enter [(.undef, (.ptr x0 0)), (x1, .val), (x2, .val)] sg = P_judge_judging_enter (run cfg) x0 x1 x2 sg :=
  (fix_raw (C := cfg) (f := F_judge_judging_enter) (s := sig_judge_judging_enter) (fn := Try.f205) (c := code_judge_judging_enter) (by kernel_rfl) Try.func205 (by kernel_rfl)).trans (by kernel_rfl)
theorem call_judge_judging_enter (x0 : Nat) (x1 : DV) (x2 : DV) (sg : List SObj) {q : List DV × List SObj} (h : P_judge_judging_enter (run cfg) x0 x1 x2 sg = some q) : (run cfg).r F_judge_judging_enter [(.undef, (.ptr x0 0)), (x1, .val), (x2, .val)] sg = some q := (fix_judge_judging_enter x0 x1 x2 sg).trans h

/-! ### typ_Static -/
noncomputable def code_typ_Static : Code := Try.f206.body.getD .skip
noncomputable def P_typ_Static (R : Orc) (x0 : DV) : Option DV := evP cfg R fl_typ_Static (retP cfg.P Try.f206) [] code_typ_Static (initSt Try.f206 [(x0, .val)] [])
theorem eq_typ_Static (R : Orc) (x0 : DV) : P_typ_Static R x0 =
  (og (isAggN 3 x0) <|
  ob (R.p F_typ_without [(.agg [(proj 0 x0), (proj 1 x0), (proj 2 x0)]), (.int .i64 5)]) fun d1 =>
  some d1) := evP_of [] (by kernel_rfl)
theorem fix_typ_Static (x0 : DV) : (run cfg).p F_typ_Static [x0] = P_typ_Static (run cfg) x0 :=
  (fix_pure (C := cfg) (f := F_typ_Static) (fn := Try.f206) (c := code_typ_Static) (by kernel_rfl) Try.func206 (by kernel_rfl)).trans (by kernel_rfl)
theorem call_typ_Static (x0 : DV) {d : DV} (h : P_typ_Static (run cfg) x0 = some d) : (run cfg).p F_typ_Static [x0] = some d := (fix_typ_Static x0).trans h

/-! ### judge_judging_cast -/
noncomputable def code_judge_judging_cast : Code := Try.f207.body.getD .skip
noncomputable def P_judge_judging_cast (R : Orc) (x0 : Nat) (x1 : DV) (x2 : DV) (x3 : DV) (sg : List SObj) : Option (List DV × List SObj) := evP cfg R fl_judge_judging_cast (retR cfg.P Try.f207 sig_judge_judging_cast) [] code_judge_judging_cast (initSt Try.f207 [(.undef, (.ptr x0 0)), (x1, .val), (x2, .val), (x3, .val)] sg)
noncomputable def P_judge_judging_cast_5 (R : Orc) (t0i : Nat) (t9 : DV) (b5 : DV) (b6 : DV) (b7 : DV) (b8_0 : DV) (b8_1 : DV) (b8_2 : DV) (b8_3 : DV) (b8_4 : DV) (b8_5 : DV) (b8_6 : DV) (b8_7 : DV) (b8_8 : DV) (b8_9 : DV) (b8_10 : DV) (b8_11 : DV) (b8_12 : DV) (b8_13 : DV) (b8_14 : DV) (b8_15 : DV) (b8_16 : DV) (b8_17 : DV) (b8_18 : DV) (b8_19 : DV) (sg : List SObj) : Option (List DV × List SObj) := evP cfg R fl_judge_judging_cast (retR cfg.P Try.f207 sig_judge_judging_cast) [true, true, true] code_judge_judging_cast ⟨spread .undef 50 0 [(9, t9)], spread .val 50 0 [(0, (.ptr t0i 0)), (5, (.loc 5 0)), (6, (.loc 6 0)), (7, (.loc 7 0)), (8, (.loc 8 0))], spread none 50 0 [(5, some [((proj 0 b5), .val), ((proj 1 b5), .val), ((proj 2 b5), .val), ((proj 3 b5), .val), ((proj 4 b5), .val), ((proj 5 b5), .val), ((proj 6 b5), .val), ((proj 7 b5), .val), ((proj 8 b5), .val), ((proj 9 b5), .val), ((proj 10 b5), .val), ((proj 11 b5), .val), ((proj 12 b5), .val), ((proj 13 b5), .val), ((proj 14 b5), .val), ((proj 15 b5), .val), ((proj 16 b5), .val), ((proj 17 b5), .val), ((proj 18 b5), .val), ((proj 19 b5), .val), ((proj 20 b5), .val), ((proj 21 b5), .val), ((proj 22 b5), .val)]), (6, some [((proj 0 b6), .val), ((proj 1 b6), .val), ((proj 2 b6), .val), ((proj 3 b6), .val), ((proj 4 b6), .val), ((proj 5 b6), .val), ((proj 6 b6), .val), ((proj 7 b6), .val), ((proj 8 b6), .val), ((proj 9 b6), .val), ((proj 10 b6), .val), ((proj 11 b6), .val), ((proj 12 b6), .val), ((proj 13 b6), .val), ((proj 14 b6), .val), ((proj 15 b6), .val)]), (7, some [((proj 0 b7), .val), ((proj 1 b7), .val), ((proj 2 b7), .val)]), (8, some [(b8_0, .val), (b8_1, .val), (b8_2, .val), (b8_3, .val), (b8_4, .val), (b8_5, .val), (b8_6, .val), (b8_7, .val), (b8_8, .val), (b8_9, .val), (b8_10, .val), (b8_11, .val), (b8_12, .val), (b8_13, .val), (b8_14, .val), (b8_15, .val), (b8_16, .val), (b8_17, .val), (b8_18, .val), (b8_19, .val)])], sg⟩
theorem eq_judge_judging_cast (R : Orc) (x0 : Nat) (x1 : DV) (x2 : DV) (x3 : DV) (sg : List SObj) : P_judge_judging_cast R x0 x1 x2 x3 sg =
  (og (isAggN 23 x1) <|
  og (isAggN 16 x2) <|
  og (isAggN 3 x3) <|
  ob (sgBox sg x0) fun c1 =>
  ob (cellDat c1 2) fun d2 =>
  ob (dLen d2) fun d3 =>
  ob (dBin .gtr d3 (.int .i64 1048576)) fun d4 =>
  ogd d4
   (ob (sgBox sg x0) fun c5 =>
   ob (cellDat c5 0) fun d6 =>
   ob (dUn .not d6) fun d7 =>
   oif d7
    (ob (R.r F_judge_judging_fails [(.undef, (.ptr x0 0)), ((.int .i64 2), .val)] sg) fun q8 =>
    some ([(.agg [(.int .i64 0), (.int .i64 0), (.int .i64 0), (.str ⟨#[]⟩), (.str ⟨#[]⟩), (.int .i64 0), (.str ⟨#[]⟩), (.int .i64 0), (.int .i64 0), (.bool false), (.list 1 []), (.int .i64 0), (.int .i64 0), (.list 3 []), (.int .i64 0), (.int .i64 0), (.list 3 []), (.list 3 []), (.list 7 []), (.list 20 [])])], q8.2))
    (P_judge_judging_cast_5 R x0 d3 x1 x2 x3 (.int .i64 0) (.int .i64 0) (.int .i64 0) (.str ⟨#[]⟩) (.str ⟨#[]⟩) (.int .i64 0) (.str ⟨#[]⟩) (.int .i64 0) (.int .i64 0) (.bool false) (.list 1 []) (.int .i64 0) (.int .i64 0) (.list 3 []) (.int .i64 0) (.int .i64 0) (.list 3 []) (.list 3 []) (.list 7 []) (.list 20 []) sg))
   (P_judge_judging_cast_5 R x0 d3 x1 x2 x3 (.int .i64 0) (.int .i64 0) (.int .i64 0) (.str ⟨#[]⟩) (.str ⟨#[]⟩) (.int .i64 0) (.str ⟨#[]⟩) (.int .i64 0) (.int .i64 0) (.bool false) (.list 1 []) (.int .i64 0) (.int .i64 0) (.list 3 []) (.int .i64 0) (.int .i64 0) (.list 3 []) (.list 3 []) (.list 7 []) (.list 20 []) sg)
   none) := evP_of [5] (by kernel_rfl)
theorem eq_judge_judging_cast_5 (R : Orc) (t0i : Nat) (t9 : DV) (b5 : DV) (b6 : DV) (b7 : DV) (b8_0 : DV) (b8_1 : DV) (b8_2 : DV) (b8_3 : DV) (b8_4 : DV) (b8_5 : DV) (b8_6 : DV) (b8_7 : DV) (b8_8 : DV) (b8_9 : DV) (b8_10 : DV) (b8_11 : DV) (b8_12 : DV) (b8_13 : DV) (b8_14 : DV) (b8_15 : DV) (b8_16 : DV) (b8_17 : DV) (b8_18 : DV) (b8_19 : DV) (sg : List SObj) : P_judge_judging_cast_5 R t0i t9 b5 b6 b7 b8_0 b8_1 b8_2 b8_3 b8_4 b8_5 b8_6 b8_7 b8_8 b8_9 b8_10 b8_11 b8_12 b8_13 b8_14 b8_15 b8_16 b8_17 b8_18 b8_19 sg =
  (ob (sgBox sg t0i) fun c1 =>
  ob (cellOwn c1 2) fun d2 =>
  ob (dApp 8 d2 (.list 8 [(.agg [(proj 1 b6), (proj 2 b6), (proj 0 b5), (proj 1 b5), (proj 2 b5), (proj 0 b7), (proj 1 b7), (proj 2 b7)])])) fun d3 =>
  ob (sgBox (sg.set t0i (SObj.box (c1.set 2 (d2, .val)))) t0i) fun c4 =>
  ob (c4[2]?) fun u5 =>
  og (isCell t9) <|
  some ([(.agg [(.int .i64 16), (.int .i64 0), (.int .i64 0), (.str ⟨#[]⟩), (.str ⟨#[]⟩), (.int .i64 0), (.str ⟨#[]⟩), (.int .i64 0), t9, (.bool false), (.list 1 []), (proj 0 b5), (proj 1 b5), (proj 2 b5), (proj 0 b7), (proj 1 b7), (proj 2 b7), (.list 3 []), (.list 7 []), (.list 20 [(.agg [(proj 3 b5), (proj 4 b5), (proj 5 b5), (proj 6 b5), (proj 7 b5), (proj 8 b5), (proj 9 b5), (proj 10 b5), (proj 11 b5), (proj 12 b5), (proj 13 b5), (proj 14 b5), (proj 15 b5), (proj 16 b5), (proj 17 b5), (proj 18 b5), (proj 19 b5), (proj 20 b5), (proj 21 b5), (proj 22 b5)])])])], ((sg.set t0i (SObj.box (c1.set 2 (d2, .val)))).set t0i (SObj.box (c4.set 2 (d3, .own)))))) := evP_of [5] (by kernel_rfl)
theorem fix_judge_judging_cast (x0 : Nat) (x1 : DV) (x2 : DV) (x3 : DV) (sg : List SObj) : (run cfg).r F_judge_judging_cast [(.undef, (.ptr x0 0)), (x1, .val), (x2, .val), (x3, .val)] sg = P_judge_judging_cast (run cfg) x0 x1 x2 x3 sg :=
  (fix_raw (C := cfg) (f := F_judge_judging_cast) (s := sig_judge_judging_cast) (fn := Try.f207) (c := code_judge_judging_cast) (by kernel_rfl) Try.func207 (by kernel_rfl)).trans (by kernel_rfl)
theorem call_judge_judging_cast (x0 : Nat) (x1 : DV) (x2 : DV) (x3 : DV) (sg : List SObj) {q : List DV × List SObj} (h : P_judge_judging_cast (run cfg) x0 x1 x2 x3 sg = some q) : (run cfg).r F_judge_judging_cast [(.undef, (.ptr x0 0)), (x1, .val), (x2, .val), (x3, .val)] sg = some q := (fix_judge_judging_cast x0 x1 x2 x3 sg).trans h

/-! ### judge_judging_app -/
noncomputable def code_judge_judging_app : Code := Try.f208.body.getD .skip
noncomputable def P_judge_judging_app (R : Orc) (x0 : Nat) (x1 : DV) (x2 : DV) (x3 : DV) (sg : List SObj) : Option (List DV × List SObj) := evP cfg R fl_judge_judging_app (retR cfg.P Try.f208 sig_judge_judging_app) [] code_judge_judging_app (initSt Try.f208 [(.undef, (.ptr x0 0)), (x1, .val), (x2, .val), (x3, .val)] sg)
set_option maxRecDepth 100000 in
theorem eq_judge_judging_app (R : Orc) (x0 : Nat) (x1 : DV) (x2 : DV) (x3 : DV) (sg : List SObj) : P_judge_judging_app R x0 x1 x2 x3 sg =
  (og (isAggN 16 x1) <|
  og (isAggN 3 x2) <|
  ob (R.r F_judge_judging_kid [(.undef, (.ptr x0 0)), ((.agg [(proj 0 x1), (proj 1 x1), (proj 2 x1), (proj 3 x1), (proj 4 x1), (proj 5 x1), (proj 6 x1), (proj 7 x1), (proj 8 x1), (proj 9 x1), (proj 10 x1), (proj 11 x1), (proj 12 x1), (proj 13 x1), (proj 14 x1), (proj 15 x1)]), .val), ((.agg [(proj 0 x2), (proj 1 x2), (proj 2 x2)]), .val), ((.int .i64 0), .val), (x3, .val)] sg) fun q1 =>
  og (isAggN 23 (q1.1.getD 0 .undef)) <|
  ob (R.r F_judge_judging_ok [(.undef, (.ptr x0 0))] q1.2) fun q2 =>
  ob (dUn .not (q2.1.getD 0 .undef)) fun d3 =>
  oif d3
   (some ([(.agg [(.int .i64 0), (.int .i64 0), (.list 3 []), (.int .i64 0), (.int .i64 0), (.int .i64 0), (.str ⟨#[]⟩), (.str ⟨#[]⟩), (.int .i64 0), (.str ⟨#[]⟩), (.int .i64 0), (.int .i64 0), (.bool false), (.list 1 []), (.int .i64 0), (.int .i64 0), (.list 3 []), (.int .i64 0), (.int .i64 0), (.list 3 []), (.list 3 []), (.list 7 []), (.list 20 [])])], q2.2))
   (ob (dBin .eql (proj 0 (q1.1.getD 0 .undef)) (.int .i64 5)) fun d4 =>
   oif d4
    (ob (dIdx 16 (proj 15 x1) (.int .i64 0)) fun d5 =>
    ob (R.p F_judge_fun [(.agg [(.int .i64 5), (.int .i64 0), (.list 3 [])]), (.agg [(.int .i64 5), (.int .i64 0), (.list 3 [])])]) fun d6 =>
    ob (R.r F_judge_judging_cast [(.undef, (.ptr x0 0)), ((.agg [(proj 0 (q1.1.getD 0 .undef)), (proj 1 (q1.1.getD 0 .undef)), (proj 2 (q1.1.getD 0 .undef)), (proj 3 (q1.1.getD 0 .undef)), (proj 4 (q1.1.getD 0 .undef)), (proj 5 (q1.1.getD 0 .undef)), (proj 6 (q1.1.getD 0 .undef)), (proj 7 (q1.1.getD 0 .undef)), (proj 8 (q1.1.getD 0 .undef)), (proj 9 (q1.1.getD 0 .undef)), (proj 10 (q1.1.getD 0 .undef)), (proj 11 (q1.1.getD 0 .undef)), (proj 12 (q1.1.getD 0 .undef)), (proj 13 (q1.1.getD 0 .undef)), (proj 14 (q1.1.getD 0 .undef)), (proj 15 (q1.1.getD 0 .undef)), (proj 16 (q1.1.getD 0 .undef)), (proj 17 (q1.1.getD 0 .undef)), (proj 18 (q1.1.getD 0 .undef)), (proj 19 (q1.1.getD 0 .undef)), (proj 20 (q1.1.getD 0 .undef)), (proj 21 (q1.1.getD 0 .undef)), (proj 22 (q1.1.getD 0 .undef))]), .val), ((.agg [(proj 0 d5), (proj 1 d5), (proj 2 d5), (proj 3 d5), (proj 4 d5), (proj 5 d5), (proj 6 d5), (proj 7 d5), (proj 8 d5), (proj 9 d5), (proj 10 d5), (proj 11 d5), (proj 12 d5), (proj 13 d5), (proj 14 d5), (proj 15 d5)]), .val), (d6, .val)] q2.2) fun q7 =>
    og (isAggN 20 (q7.1.getD 0 .undef)) <|
    ob (R.r F_judge_judging_fits [(.undef, (.ptr x0 0)), ((.agg [(proj 0 x1), (proj 1 x1), (proj 2 x1), (proj 3 x1), (proj 4 x1), (proj 5 x1), (proj 6 x1), (proj 7 x1), (proj 8 x1), (proj 9 x1), (proj 10 x1), (proj 11 x1), (proj 12 x1), (proj 13 x1), (proj 14 x1), (proj 15 x1)]), .val), ((.agg [(proj 0 x2), (proj 1 x2), (proj 2 x2)]), .val), ((.int .i64 1), .val), (x3, .val), ((.agg [(.int .i64 5), (.int .i64 0), (.list 3 [])]), .val)] q7.2) fun q8 =>
    og (isAggN 20 (q8.1.getD 0 .undef)) <|
    some ([(.agg [(.int .i64 5), (.int .i64 0), (.list 3 []), (.int .i64 10), (.int .i64 0), (.int .i64 0), (.str ⟨#[]⟩), (.str ⟨#[]⟩), (.int .i64 0), (.str ⟨#[]⟩), (.int .i64 0), (.int .i64 0), (.bool false), (.list 1 []), (.int .i64 0), (.int .i64 0), (.list 3 []), (.int .i64 0), (.int .i64 0), (.list 3 []), (.list 3 []), (.list 7 []), (.list 20 [(.agg [(proj 0 (q7.1.getD 0 .undef)), (proj 1 (q7.1.getD 0 .undef)), (proj 2 (q7.1.getD 0 .undef)), (proj 3 (q7.1.getD 0 .undef)), (proj 4 (q7.1.getD 0 .undef)), (proj 5 (q7.1.getD 0 .undef)), (proj 6 (q7.1.getD 0 .undef)), (proj 7 (q7.1.getD 0 .undef)), (proj 8 (q7.1.getD 0 .undef)), (proj 9 (q7.1.getD 0 .undef)), (proj 10 (q7.1.getD 0 .undef)), (proj 11 (q7.1.getD 0 .undef)), (proj 12 (q7.1.getD 0 .undef)), (proj 13 (q7.1.getD 0 .undef)), (proj 14 (q7.1.getD 0 .undef)), (proj 15 (q7.1.getD 0 .undef)), (proj 16 (q7.1.getD 0 .undef)), (proj 17 (q7.1.getD 0 .undef)), (proj 18 (q7.1.getD 0 .undef)), (proj 19 (q7.1.getD 0 .undef))]), (.agg [(proj 0 (q8.1.getD 0 .undef)), (proj 1 (q8.1.getD 0 .undef)), (proj 2 (q8.1.getD 0 .undef)), (proj 3 (q8.1.getD 0 .undef)), (proj 4 (q8.1.getD 0 .undef)), (proj 5 (q8.1.getD 0 .undef)), (proj 6 (q8.1.getD 0 .undef)), (proj 7 (q8.1.getD 0 .undef)), (proj 8 (q8.1.getD 0 .undef)), (proj 9 (q8.1.getD 0 .undef)), (proj 10 (q8.1.getD 0 .undef)), (proj 11 (q8.1.getD 0 .undef)), (proj 12 (q8.1.getD 0 .undef)), (proj 13 (q8.1.getD 0 .undef)), (proj 14 (q8.1.getD 0 .undef)), (proj 15 (q8.1.getD 0 .undef)), (proj 16 (q8.1.getD 0 .undef)), (proj 17 (q8.1.getD 0 .undef)), (proj 18 (q8.1.getD 0 .undef)), (proj 19 (q8.1.getD 0 .undef))])])])], q8.2))
    (ob (dBin .eql (proj 0 (q1.1.getD 0 .undef)) (.int .i64 9)) fun d9 =>
    oif d9
     (ob (dIdx 3 (proj 2 (q1.1.getD 0 .undef)) (.int .i64 0)) fun d10 =>
     ob (R.r F_judge_judging_fits [(.undef, (.ptr x0 0)), ((.agg [(proj 0 x1), (proj 1 x1), (proj 2 x1), (proj 3 x1), (proj 4 x1), (proj 5 x1), (proj 6 x1), (proj 7 x1), (proj 8 x1), (proj 9 x1), (proj 10 x1), (proj 11 x1), (proj 12 x1), (proj 13 x1), (proj 14 x1), (proj 15 x1)]), .val), ((.agg [(proj 0 x2), (proj 1 x2), (proj 2 x2)]), .val), ((.int .i64 1), .val), (x3, .val), ((.agg [(proj 0 d10), (proj 1 d10), (proj 2 d10)]), .val)] q2.2) fun q11 =>
     og (isAggN 20 (q11.1.getD 0 .undef)) <|
     ob (dIdx 3 (proj 2 (q1.1.getD 0 .undef)) (.int .i64 1)) fun d12 =>
     some ([(.agg [(proj 0 d12), (proj 1 d12), (proj 2 d12), (.int .i64 10), (.int .i64 0), (.int .i64 0), (.str ⟨#[]⟩), (.str ⟨#[]⟩), (.int .i64 0), (.str ⟨#[]⟩), (.int .i64 0), (.int .i64 0), (.bool false), (.list 1 []), (.int .i64 0), (.int .i64 0), (.list 3 []), (.int .i64 0), (.int .i64 0), (.list 3 []), (.list 3 []), (.list 7 []), (.list 20 [(.agg [(proj 3 (q1.1.getD 0 .undef)), (proj 4 (q1.1.getD 0 .undef)), (proj 5 (q1.1.getD 0 .undef)), (proj 6 (q1.1.getD 0 .undef)), (proj 7 (q1.1.getD 0 .undef)), (proj 8 (q1.1.getD 0 .undef)), (proj 9 (q1.1.getD 0 .undef)), (proj 10 (q1.1.getD 0 .undef)), (proj 11 (q1.1.getD 0 .undef)), (proj 12 (q1.1.getD 0 .undef)), (proj 13 (q1.1.getD 0 .undef)), (proj 14 (q1.1.getD 0 .undef)), (proj 15 (q1.1.getD 0 .undef)), (proj 16 (q1.1.getD 0 .undef)), (proj 17 (q1.1.getD 0 .undef)), (proj 18 (q1.1.getD 0 .undef)), (proj 19 (q1.1.getD 0 .undef)), (proj 20 (q1.1.getD 0 .undef)), (proj 21 (q1.1.getD 0 .undef)), (proj 22 (q1.1.getD 0 .undef))]), (.agg [(proj 0 (q11.1.getD 0 .undef)), (proj 1 (q11.1.getD 0 .undef)), (proj 2 (q11.1.getD 0 .undef)), (proj 3 (q11.1.getD 0 .undef)), (proj 4 (q11.1.getD 0 .undef)), (proj 5 (q11.1.getD 0 .undef)), (proj 6 (q11.1.getD 0 .undef)), (proj 7 (q11.1.getD 0 .undef)), (proj 8 (q11.1.getD 0 .undef)), (proj 9 (q11.1.getD 0 .undef)), (proj 10 (q11.1.getD 0 .undef)), (proj 11 (q11.1.getD 0 .undef)), (proj 12 (q11.1.getD 0 .undef)), (proj 13 (q11.1.getD 0 .undef)), (proj 14 (q11.1.getD 0 .undef)), (proj 15 (q11.1.getD 0 .undef)), (proj 16 (q11.1.getD 0 .undef)), (proj 17 (q11.1.getD 0 .undef)), (proj 18 (q11.1.getD 0 .undef)), (proj 19 (q11.1.getD 0 .undef))])])])], q11.2))
     (ob (R.r F_judge_judging_kid [(.undef, (.ptr x0 0)), ((.agg [(proj 0 x1), (proj 1 x1), (proj 2 x1), (proj 3 x1), (proj 4 x1), (proj 5 x1), (proj 6 x1), (proj 7 x1), (proj 8 x1), (proj 9 x1), (proj 10 x1), (proj 11 x1), (proj 12 x1), (proj 13 x1), (proj 14 x1), (proj 15 x1)]), .val), ((.agg [(proj 0 x2), (proj 1 x2), (proj 2 x2)]), .val), ((.int .i64 1), .val), (x3, .val)] q2.2) fun q13 =>
     ob (R.r F_judge_judging_fails [(.undef, (.ptr x0 0)), ((.int .i64 4), .val)] q13.2) fun q14 =>
     some ([(.agg [(.int .i64 0), (.int .i64 0), (.list 3 []), (.int .i64 0), (.int .i64 0), (.int .i64 0), (.str ⟨#[]⟩), (.str ⟨#[]⟩), (.int .i64 0), (.str ⟨#[]⟩), (.int .i64 0), (.int .i64 0), (.bool false), (.list 1 []), (.int .i64 0), (.int .i64 0), (.list 3 []), (.int .i64 0), (.int .i64 0), (.list 3 []), (.list 3 []), (.list 7 []), (.list 20 [])])], q14.2))))) := evP_of [] (by kernel_rfl)
theorem fix_judge_judging_app (x0 : Nat) (x1 : DV) (x2 : DV) (x3 : DV) (sg : List SObj) : (run cfg).r F_judge_judging_app [(.undef, (.ptr x0 0)), (x1, .val), (x2, .val), (x3, .val)] sg = P_judge_judging_app (run cfg) x0 x1 x2 x3 sg :=
  (fix_raw (C := cfg) (f := F_judge_judging_app) (s := sig_judge_judging_app) (fn := Try.f208) (c := code_judge_judging_app) (by kernel_rfl) Try.func208 (by kernel_rfl)).trans (by kernel_rfl)
theorem call_judge_judging_app (x0 : Nat) (x1 : DV) (x2 : DV) (x3 : DV) (sg : List SObj) {q : List DV × List SObj} (h : P_judge_judging_app (run cfg) x0 x1 x2 x3 sg = some q) : (run cfg).r F_judge_judging_app [(.undef, (.ptr x0 0)), (x1, .val), (x2, .val), (x3, .val)] sg = some q := (fix_judge_judging_app x0 x1 x2 x3 sg).trans h

/-! ### judge_judging_let -/
noncomputable def code_judge_judging_let : Code := Try.f209.body.getD .skip
noncomputable def P_judge_judging_let (R : Orc) (x0 : Nat) (x1 : DV) (x2 : DV) (x3 : DV) (sg : List SObj) : Option (List DV × List SObj) := evP cfg R fl_judge_judging_let (retR cfg.P Try.f209 sig_judge_judging_let) [] code_judge_judging_let (initSt Try.f209 [(.undef, (.ptr x0 0)), (x1, .val), (x2, .val), (x3, .val)] sg)
noncomputable def P_judge_judging_let_9 (R : Orc) (t0i : Nat) (t3 : DV) (b5 : DV) (b6 : DV) (b8_0 : DV) (b8_1 : DV) (b8_2 : DV) (b8_3 : DV) (b8_4 : DV) (b8_5 : DV) (b8_6 : DV) (b8_7 : DV) (b8_8 : DV) (b8_9 : DV) (b8_10 : DV) (b8_11 : DV) (b8_12 : DV) (b8_13 : DV) (b8_14 : DV) (b8_15 : DV) (b8_16 : DV) (b8_17 : DV) (b8_18 : DV) (b8_19 : DV) (b8_20 : DV) (b8_21 : DV) (b8_22 : DV) (b9_0 : DV) (b9_1 : DV) (b9_2 : DV) (b9_3 : DV) (b9_4 : DV) (b10_0 : DV) (b10_1 : DV) (b10_2 : DV) (b10_3 : DV) (b10_4 : DV) (b10_5 : DV) (b10_6 : DV) (b10_7 : DV) (b10_8 : DV) (b10_9 : DV) (b10_10 : DV) (b10_11 : DV) (b10_12 : DV) (b10_13 : DV) (b10_14 : DV) (b10_15 : DV) (b10_16 : DV) (b10_17 : DV) (b10_18 : DV) (b10_19 : DV) (sg : List SObj) : Option (List DV × List SObj) := evP cfg R fl_judge_judging_let (retR cfg.P Try.f209 sig_judge_judging_let) [true, true, true] code_judge_judging_let ⟨spread .undef 72 0 [(3, t3)], spread .val 72 0 [(0, (.ptr t0i 0)), (5, (.loc 5 0)), (6, (.loc 6 0)), (8, (.loc 8 0)), (9, (.loc 9 0)), (10, (.loc 10 0))], spread none 72 0 [(5, some [((proj 0 b5), .val), ((proj 1 b5), .val), ((proj 2 b5), .val), ((proj 3 b5), .val), ((proj 4 b5), .val), ((proj 5 b5), .val), ((proj 6 b5), .val), ((proj 7 b5), .val), ((proj 8 b5), .val), ((proj 9 b5), .val), ((proj 10 b5), .val), ((proj 11 b5), .val), ((proj 12 b5), .val), ((proj 13 b5), .val), ((proj 14 b5), .val), ((proj 15 b5), .val)]), (6, some [((proj 0 b6), .val), ((proj 1 b6), .val), ((proj 2 b6), .val)]), (8, some [(b8_0, .val), (b8_1, .val), (b8_2, .val), (b8_3, .val), (b8_4, .val), (b8_5, .val), (b8_6, .val), (b8_7, .val), (b8_8, .val), (b8_9, .val), (b8_10, .val), (b8_11, .val), (b8_12, .val), (b8_13, .val), (b8_14, .val), (b8_15, .val), (b8_16, .val), (b8_17, .val), (b8_18, .val), (b8_19, .val), (b8_20, .val), (b8_21, .val), (b8_22, .val)]), (9, some [(b9_0, .val), (b9_1, .val), (b9_2, .val), (b9_3, .val), (b9_4, .val)]), (10, some [(b10_0, .val), (b10_1, .val), (b10_2, .val), (b10_3, .val), (b10_4, .val), (b10_5, .val), (b10_6, .val), (b10_7, .val), (b10_8, .val), (b10_9, .val), (b10_10, .val), (b10_11, .val), (b10_12, .val), (b10_13, .val), (b10_14, .val), (b10_15, .val), (b10_16, .val), (b10_17, .val), (b10_18, .val), (b10_19, .val)])], sg⟩
theorem eq_judge_judging_let (R : Orc) (x0 : Nat) (x1 : DV) (x2 : DV) (x3 : DV) (sg : List SObj) : P_judge_judging_let R x0 x1 x2 x3 sg =
  (og (isAggN 16 x1) <|
  og (isAggN 3 x2) <|
  og (isCell (proj 3 x1)) <|
  ob (dBin .eql (proj 8 x1) (.int .i64 0)) fun d1 =>
  oif d1
   (ob (R.r F_judge_judging_enter [(.undef, (.ptr x0 0)), ((proj 1 x2), .val), ((.int .i64 1), .val)] sg) fun q2 =>
   ob (R.r F_judge_judging_kid [(.undef, (.ptr x0 0)), ((.agg [(proj 0 x1), (proj 1 x1), (proj 2 x1), (proj 3 x1), (proj 4 x1), (proj 5 x1), (proj 6 x1), (proj 7 x1), (proj 8 x1), (proj 9 x1), (proj 10 x1), (proj 11 x1), (proj 12 x1), (proj 13 x1), (proj 14 x1), (proj 15 x1)]), .val), ((.agg [(proj 0 x2), (proj 1 x2), (proj 2 x2)]), .val), ((.int .i64 0), .val), (x3, .val)] q2.2) fun q3 =>
   og (isAggN 23 (q3.1.getD 0 .undef)) <|
   ob (R.r F_judge_judging_enter [(.undef, (.ptr x0 0)), ((proj 1 x2), .val), ((.int .i64 (-1)), .val)] q3.2) fun q4 =>
   og (isCell (proj 1 x2)) <|
   P_judge_judging_let_9 R x0 x3 x1 x2 (.int .i64 0) (.int .i64 0) (.list 3 []) (.int .i64 0) (.int .i64 0) (.int .i64 0) (.str ⟨#[]⟩) (.str ⟨#[]⟩) (.int .i64 0) (.str ⟨#[]⟩) (.int .i64 0) (.int .i64 0) (.bool false) (.list 1 []) (.int .i64 0) (.int .i64 0) (.list 3 []) (.int .i64 0) (.int .i64 0) (.list 3 []) (.list 3 []) (.list 7 []) (.list 20 []) (proj 3 x1) (proj 0 (q3.1.getD 0 .undef)) (proj 1 (q3.1.getD 0 .undef)) (proj 2 (q3.1.getD 0 .undef)) (proj 1 x2) (proj 3 (q3.1.getD 0 .undef)) (proj 4 (q3.1.getD 0 .undef)) (proj 5 (q3.1.getD 0 .undef)) (proj 6 (q3.1.getD 0 .undef)) (proj 7 (q3.1.getD 0 .undef)) (proj 8 (q3.1.getD 0 .undef)) (proj 9 (q3.1.getD 0 .undef)) (proj 10 (q3.1.getD 0 .undef)) (proj 11 (q3.1.getD 0 .undef)) (proj 12 (q3.1.getD 0 .undef)) (proj 13 (q3.1.getD 0 .undef)) (proj 14 (q3.1.getD 0 .undef)) (proj 15 (q3.1.getD 0 .undef)) (proj 16 (q3.1.getD 0 .undef)) (proj 17 (q3.1.getD 0 .undef)) (proj 18 (q3.1.getD 0 .undef)) (proj 19 (q3.1.getD 0 .undef)) (proj 20 (q3.1.getD 0 .undef)) (proj 21 (q3.1.getD 0 .undef)) (proj 22 (q3.1.getD 0 .undef)) q4.2)
   (ob (R.r F_judge_judging_fits [(.undef, (.ptr x0 0)), ((.agg [(proj 0 x1), (proj 1 x1), (proj 2 x1), (proj 3 x1), (proj 4 x1), (proj 5 x1), (proj 6 x1), (proj 7 x1), (proj 8 x1), (proj 9 x1), (proj 10 x1), (proj 11 x1), (proj 12 x1), (proj 13 x1), (proj 14 x1), (proj 15 x1)]), .val), ((.agg [(proj 0 x2), (proj 1 x2), (proj 2 x2)]), .val), ((.int .i64 0), .val), (x3, .val), ((.agg [(proj 8 x1), (proj 9 x1), (proj 10 x1)]), .val)] sg) fun q5 =>
   og (isAggN 20 (q5.1.getD 0 .undef)) <|
   P_judge_judging_let_9 R x0 x3 x1 x2 (.int .i64 0) (.int .i64 0) (.list 3 []) (.int .i64 0) (.int .i64 0) (.int .i64 0) (.str ⟨#[]⟩) (.str ⟨#[]⟩) (.int .i64 0) (.str ⟨#[]⟩) (.int .i64 0) (.int .i64 0) (.bool false) (.list 1 []) (.int .i64 0) (.int .i64 0) (.list 3 []) (.int .i64 0) (.int .i64 0) (.list 3 []) (.list 3 []) (.list 7 []) (.list 20 []) (proj 3 x1) (proj 8 x1) (proj 9 x1) (proj 10 x1) (.list 1 []) (proj 0 (q5.1.getD 0 .undef)) (proj 1 (q5.1.getD 0 .undef)) (proj 2 (q5.1.getD 0 .undef)) (proj 3 (q5.1.getD 0 .undef)) (proj 4 (q5.1.getD 0 .undef)) (proj 5 (q5.1.getD 0 .undef)) (proj 6 (q5.1.getD 0 .undef)) (proj 7 (q5.1.getD 0 .undef)) (proj 8 (q5.1.getD 0 .undef)) (proj 9 (q5.1.getD 0 .undef)) (proj 10 (q5.1.getD 0 .undef)) (proj 11 (q5.1.getD 0 .undef)) (proj 12 (q5.1.getD 0 .undef)) (proj 13 (q5.1.getD 0 .undef)) (proj 14 (q5.1.getD 0 .undef)) (proj 15 (q5.1.getD 0 .undef)) (proj 16 (q5.1.getD 0 .undef)) (proj 17 (q5.1.getD 0 .undef)) (proj 18 (q5.1.getD 0 .undef)) (proj 19 (q5.1.getD 0 .undef)) q5.2)) := evP_of [9] (by kernel_rfl)
theorem eq_judge_judging_let_9 (R : Orc) (t0i : Nat) (t3 : DV) (b5 : DV) (b6 : DV) (b8_0 : DV) (b8_1 : DV) (b8_2 : DV) (b8_3 : DV) (b8_4 : DV) (b8_5 : DV) (b8_6 : DV) (b8_7 : DV) (b8_8 : DV) (b8_9 : DV) (b8_10 : DV) (b8_11 : DV) (b8_12 : DV) (b8_13 : DV) (b8_14 : DV) (b8_15 : DV) (b8_16 : DV) (b8_17 : DV) (b8_18 : DV) (b8_19 : DV) (b8_20 : DV) (b8_21 : DV) (b8_22 : DV) (b9_0 : DV) (b9_1 : DV) (b9_2 : DV) (b9_3 : DV) (b9_4 : DV) (b10_0 : DV) (b10_1 : DV) (b10_2 : DV) (b10_3 : DV) (b10_4 : DV) (b10_5 : DV) (b10_6 : DV) (b10_7 : DV) (b10_8 : DV) (b10_9 : DV) (b10_10 : DV) (b10_11 : DV) (b10_12 : DV) (b10_13 : DV) (b10_14 : DV) (b10_15 : DV) (b10_16 : DV) (b10_17 : DV) (b10_18 : DV) (b10_19 : DV) (sg : List SObj) : P_judge_judging_let_9 R t0i t3 b5 b6 b8_0 b8_1 b8_2 b8_3 b8_4 b8_5 b8_6 b8_7 b8_8 b8_9 b8_10 b8_11 b8_12 b8_13 b8_14 b8_15 b8_16 b8_17 b8_18 b8_19 b8_20 b8_21 b8_22 b9_0 b9_1 b9_2 b9_3 b9_4 b10_0 b10_1 b10_2 b10_3 b10_4 b10_5 b10_6 b10_7 b10_8 b10_9 b10_10 b10_11 b10_12 b10_13 b10_14 b10_15 b10_16 b10_17 b10_18 b10_19 sg =
  (ob (R.r F_judge_with [(t3, .val), ((.list 5 [(.agg [b9_0, b9_1, b9_2, b9_3, b9_4])]), .val)] sg) fun q1 =>
  ob (R.r F_judge_judging_kid [(.undef, (.ptr t0i 0)), ((.agg [(proj 0 b5), (proj 1 b5), (proj 2 b5), (proj 3 b5), (proj 4 b5), (proj 5 b5), (proj 6 b5), (proj 7 b5), (proj 8 b5), (proj 9 b5), (proj 10 b5), (proj 11 b5), (proj 12 b5), (proj 13 b5), (proj 14 b5), (proj 15 b5)]), .val), ((.agg [(proj 0 b6), (proj 1 b6), (proj 2 b6)]), .val), ((.int .i64 1), .val), ((q1.1.getD 0 .undef), .val)] q1.2) fun q2 =>
  og (isAggN 23 (q2.1.getD 0 .undef)) <|
  og (isCell (proj 3 b5)) <|
  og (isCell b9_4) <|
  some ([(.agg [(proj 0 (q2.1.getD 0 .undef)), (proj 1 (q2.1.getD 0 .undef)), (proj 2 (q2.1.getD 0 .undef)), (.int .i64 11), (.int .i64 0), (.int .i64 0), (proj 3 b5), (.str ⟨#[]⟩), (.int .i64 0), (.str ⟨#[]⟩), (.int .i64 0), (.int .i64 0), (.bool false), b9_4, (.int .i64 0), (.int .i64 0), (.list 3 []), (.int .i64 0), (.int .i64 0), (.list 3 []), (.list 3 []), (.list 7 []), (.list 20 [(.agg [b10_0, b10_1, b10_2, b10_3, b10_4, b10_5, b10_6, b10_7, b10_8, b10_9, b10_10, b10_11, b10_12, b10_13, b10_14, b10_15, b10_16, b10_17, b10_18, b10_19]), (.agg [(proj 3 (q2.1.getD 0 .undef)), (proj 4 (q2.1.getD 0 .undef)), (proj 5 (q2.1.getD 0 .undef)), (proj 6 (q2.1.getD 0 .undef)), (proj 7 (q2.1.getD 0 .undef)), (proj 8 (q2.1.getD 0 .undef)), (proj 9 (q2.1.getD 0 .undef)), (proj 10 (q2.1.getD 0 .undef)), (proj 11 (q2.1.getD 0 .undef)), (proj 12 (q2.1.getD 0 .undef)), (proj 13 (q2.1.getD 0 .undef)), (proj 14 (q2.1.getD 0 .undef)), (proj 15 (q2.1.getD 0 .undef)), (proj 16 (q2.1.getD 0 .undef)), (proj 17 (q2.1.getD 0 .undef)), (proj 18 (q2.1.getD 0 .undef)), (proj 19 (q2.1.getD 0 .undef)), (proj 20 (q2.1.getD 0 .undef)), (proj 21 (q2.1.getD 0 .undef)), (proj 22 (q2.1.getD 0 .undef))])])])], q2.2)) := evP_of [9] (by kernel_rfl)
theorem fix_judge_judging_let (x0 : Nat) (x1 : DV) (x2 : DV) (x3 : DV) (sg : List SObj) : (run cfg).r F_judge_judging_let [(.undef, (.ptr x0 0)), (x1, .val), (x2, .val), (x3, .val)] sg = P_judge_judging_let (run cfg) x0 x1 x2 x3 sg :=
  (fix_raw (C := cfg) (f := F_judge_judging_let) (s := sig_judge_judging_let) (fn := Try.f209) (c := code_judge_judging_let) (by kernel_rfl) Try.func209 (by kernel_rfl)).trans (by kernel_rfl)
theorem call_judge_judging_let (x0 : Nat) (x1 : DV) (x2 : DV) (x3 : DV) (sg : List SObj) {q : List DV × List SObj} (h : P_judge_judging_let (run cfg) x0 x1 x2 x3 sg = some q) : (run cfg).r F_judge_judging_let [(.undef, (.ptr x0 0)), (x1, .val), (x2, .val), (x3, .val)] sg = some q := (fix_judge_judging_let x0 x1 x2 x3 sg).trans h

/-! ### judge_judging_rec -/
noncomputable def code_judge_judging_rec : Code := Try.f210.body.getD .skip
noncomputable def P_judge_judging_rec (R : Orc) (x0 : Nat) (x1 : DV) (x2 : DV) (x3 : DV) (sg : List SObj) : Option (List DV × List SObj) := evP cfg R fl_judge_judging_rec (retR cfg.P Try.f210 sig_judge_judging_rec) [] code_judge_judging_rec (initSt Try.f210 [(.undef, (.ptr x0 0)), (x1, .val), (x2, .val), (x3, .val)] sg)
noncomputable def P_judge_judging_rec_5 (R : Orc) (t0i : Nat) (t3 : DV) (t10 : DV) (b5 : DV) (b6 : DV) (b8_0 : DV) (b8_1 : DV) (b8_2 : DV) (b8_3 : DV) (b8_4 : DV) (b8_5 : DV) (b8_6 : DV) (b8_7 : DV) (b8_8 : DV) (b8_9 : DV) (b8_10 : DV) (b8_11 : DV) (b8_12 : DV) (b8_13 : DV) (b8_14 : DV) (b8_15 : DV) (b8_16 : DV) (b8_17 : DV) (b8_18 : DV) (b8_19 : DV) (b8_20 : DV) (b8_21 : DV) (b8_22 : DV) (b9 : DV) (sg : List SObj) : Option (List DV × List SObj) := evP cfg R fl_judge_judging_rec (retR cfg.P Try.f210 sig_judge_judging_rec) [true, true, true, true] code_judge_judging_rec ⟨spread .undef 86 0 [(3, t3), (10, t10)], spread .val 86 0 [(0, (.ptr t0i 0)), (5, (.loc 5 0)), (6, (.loc 6 0)), (8, (.loc 8 0)), (9, (.loc 9 0))], spread none 86 0 [(5, some [((proj 0 b5), .val), ((proj 1 b5), .val), ((proj 2 b5), .val), ((proj 3 b5), .val), ((proj 4 b5), .val), ((proj 5 b5), .val), ((proj 6 b5), .val), ((proj 7 b5), .val), ((proj 8 b5), .val), ((proj 9 b5), .val), ((proj 10 b5), .val), ((proj 11 b5), .val), ((proj 12 b5), .val), ((proj 13 b5), .val), ((proj 14 b5), .val), ((proj 15 b5), .val)]), (6, some [((proj 0 b6), .val), ((proj 1 b6), .val), ((proj 2 b6), .val)]), (8, some [(b8_0, .val), (b8_1, .val), (b8_2, .val), (b8_3, .val), (b8_4, .val), (b8_5, .val), (b8_6, .val), (b8_7, .val), (b8_8, .val), (b8_9, .val), (b8_10, .val), (b8_11, .val), (b8_12, .val), (b8_13, .val), (b8_14, .val), (b8_15, .val), (b8_16, .val), (b8_17, .val), (b8_18, .val), (b8_19, .val), (b8_20, .val), (b8_21, .val), (b8_22, .val)]), (9, some [((proj 0 b9), .val), ((proj 1 b9), .val), ((proj 2 b9), .val)])], sg⟩
theorem eq_judge_judging_rec (R : Orc) (x0 : Nat) (x1 : DV) (x2 : DV) (x3 : DV) (sg : List SObj) : P_judge_judging_rec R x0 x1 x2 x3 sg =
  (og (isAggN 16 x1) <|
  og (isAggN 3 x2) <|
  ob (R.p F_judge_one [(.agg [(proj 8 x1), (proj 9 x1), (proj 10 x1)]), (proj 0 x2)]) fun d1 =>
  og (isAggN 3 d1) <|
  ob (dBin .eql (proj 8 x1) (.int .i64 0)) fun d2 =>
  oif d2
   (ob (dSlice 3 (proj 0 x2) (some (.int .i64 1)) none) fun d3 =>
   P_judge_judging_rec_5 R x0 x3 d3 x1 x2 (.int .i64 0) (.int .i64 0) (.list 3 []) (.int .i64 0) (.int .i64 0) (.int .i64 0) (.str ⟨#[]⟩) (.str ⟨#[]⟩) (.int .i64 0) (.str ⟨#[]⟩) (.int .i64 0) (.int .i64 0) (.bool false) (.list 1 []) (.int .i64 0) (.int .i64 0) (.list 3 []) (.int .i64 0) (.int .i64 0) (.list 3 []) (.list 3 []) (.list 7 []) (.list 20 []) d1 sg)
   (P_judge_judging_rec_5 R x0 x3 (proj 0 x2) x1 x2 (.int .i64 0) (.int .i64 0) (.list 3 []) (.int .i64 0) (.int .i64 0) (.int .i64 0) (.str ⟨#[]⟩) (.str ⟨#[]⟩) (.int .i64 0) (.str ⟨#[]⟩) (.int .i64 0) (.int .i64 0) (.bool false) (.list 1 []) (.int .i64 0) (.int .i64 0) (.list 3 []) (.int .i64 0) (.int .i64 0) (.list 3 []) (.list 3 []) (.list 7 []) (.list 20 []) d1 sg)) := evP_of [5] (by kernel_rfl)
set_option maxRecDepth 100000 in
theorem eq_judge_judging_rec_5 (R : Orc) (t0i : Nat) (t3 : DV) (t10 : DV) (b5 : DV) (b6 : DV) (b8_0 : DV) (b8_1 : DV) (b8_2 : DV) (b8_3 : DV) (b8_4 : DV) (b8_5 : DV) (b8_6 : DV) (b8_7 : DV) (b8_8 : DV) (b8_9 : DV) (b8_10 : DV) (b8_11 : DV) (b8_12 : DV) (b8_13 : DV) (b8_14 : DV) (b8_15 : DV) (b8_16 : DV) (b8_17 : DV) (b8_18 : DV) (b8_19 : DV) (b8_20 : DV) (b8_21 : DV) (b8_22 : DV) (b9 : DV) (sg : List SObj) : P_judge_judging_rec_5 R t0i t3 t10 b5 b6 b8_0 b8_1 b8_2 b8_3 b8_4 b8_5 b8_6 b8_7 b8_8 b8_9 b8_10 b8_11 b8_12 b8_13 b8_14 b8_15 b8_16 b8_17 b8_18 b8_19 b8_20 b8_21 b8_22 b9 sg =
  (ob (R.p F_judge_one [(.agg [(proj 11 b5), (proj 12 b5), (proj 13 b5)]), t10]) fun d1 =>
  og (isAggN 3 d1) <|
  ob (R.p F_judge_fun [(.agg [(proj 0 b9), (proj 1 b9), (proj 2 b9)]), (.agg [(proj 0 d1), (proj 1 d1), (proj 2 d1)])]) fun d2 =>
  og (isCell (proj 3 b5)) <|
  og (isAggN 3 d2) <|
  ob (R.r F_judge_judging_enter [(.undef, (.ptr t0i 0)), ((proj 1 b6), .val), ((.int .i64 1), .val)] sg) fun q3 =>
  og (isCell (proj 4 b5)) <|
  ob (R.r F_judge_with [(t3, .val), ((.list 5 [(.agg [(proj 3 b5), (proj 0 d2), (proj 1 d2), (proj 2 d2), (.list 1 [])]), (.agg [(proj 4 b5), (proj 0 b9), (proj 1 b9), (proj 2 b9), (.list 1 [])])]), .val)] q3.2) fun q4 =>
  ob (R.r F_judge_judging_fits [(.undef, (.ptr t0i 0)), ((.agg [(proj 0 b5), (proj 1 b5), (proj 2 b5), (proj 3 b5), (proj 4 b5), (proj 5 b5), (proj 6 b5), (proj 7 b5), (proj 8 b5), (proj 9 b5), (proj 10 b5), (proj 11 b5), (proj 12 b5), (proj 13 b5), (proj 14 b5), (proj 15 b5)]), .val), ((.agg [(proj 0 b6), (proj 1 b6), (proj 2 b6)]), .val), ((.int .i64 0), .val), ((q4.1.getD 0 .undef), .val), ((.agg [(proj 0 d1), (proj 1 d1), (proj 2 d1)]), .val)] q4.2) fun q5 =>
  og (isAggN 20 (q5.1.getD 0 .undef)) <|
  ob (R.r F_judge_judging_enter [(.undef, (.ptr t0i 0)), ((proj 1 b6), .val), ((.int .i64 (-1)), .val)] q5.2) fun q6 =>
  og (isCell (proj 1 b6)) <|
  ob (R.r F_judge_with [(t3, .val), ((.list 5 [(.agg [(proj 3 b5), (proj 0 d2), (proj 1 d2), (proj 2 d2), (proj 1 b6)])]), .val)] q6.2) fun q7 =>
  ob (R.r F_judge_judging_kid [(.undef, (.ptr t0i 0)), ((.agg [(proj 0 b5), (proj 1 b5), (proj 2 b5), (proj 3 b5), (proj 4 b5), (proj 5 b5), (proj 6 b5), (proj 7 b5), (proj 8 b5), (proj 9 b5), (proj 10 b5), (proj 11 b5), (proj 12 b5), (proj 13 b5), (proj 14 b5), (proj 15 b5)]), .val), ((.agg [(proj 0 b6), (proj 1 b6), (proj 2 b6)]), .val), ((.int .i64 1), .val), ((q7.1.getD 0 .undef), .val)] q7.2) fun q8 =>
  og (isAggN 23 (q8.1.getD 0 .undef)) <|
  og (isCell (proj 3 b5)) <|
  og (isCell (proj 4 b5)) <|
  og (isCell (proj 1 b6)) <|
  some ([(.agg [(proj 0 (q8.1.getD 0 .undef)), (proj 1 (q8.1.getD 0 .undef)), (proj 2 (q8.1.getD 0 .undef)), (.int .i64 12), (.int .i64 0), (.int .i64 0), (proj 3 b5), (proj 4 b5), (.int .i64 0), (.str ⟨#[]⟩), (.int .i64 0), (.int .i64 0), (.bool false), (proj 1 b6), (proj 0 b9), (proj 1 b9), (proj 2 b9), (proj 0 d1), (proj 1 d1), (proj 2 d1), (.list 3 []), (.list 7 []), (.list 20 [(.agg [(proj 0 (q5.1.getD 0 .undef)), (proj 1 (q5.1.getD 0 .undef)), (proj 2 (q5.1.getD 0 .undef)), (proj 3 (q5.1.getD 0 .undef)), (proj 4 (q5.1.getD 0 .undef)), (proj 5 (q5.1.getD 0 .undef)), (proj 6 (q5.1.getD 0 .undef)), (proj 7 (q5.1.getD 0 .undef)), (proj 8 (q5.1.getD 0 .undef)), (proj 9 (q5.1.getD 0 .undef)), (proj 10 (q5.1.getD 0 .undef)), (proj 11 (q5.1.getD 0 .undef)), (proj 12 (q5.1.getD 0 .undef)), (proj 13 (q5.1.getD 0 .undef)), (proj 14 (q5.1.getD 0 .undef)), (proj 15 (q5.1.getD 0 .undef)), (proj 16 (q5.1.getD 0 .undef)), (proj 17 (q5.1.getD 0 .undef)), (proj 18 (q5.1.getD 0 .undef)), (proj 19 (q5.1.getD 0 .undef))]), (.agg [(proj 3 (q8.1.getD 0 .undef)), (proj 4 (q8.1.getD 0 .undef)), (proj 5 (q8.1.getD 0 .undef)), (proj 6 (q8.1.getD 0 .undef)), (proj 7 (q8.1.getD 0 .undef)), (proj 8 (q8.1.getD 0 .undef)), (proj 9 (q8.1.getD 0 .undef)), (proj 10 (q8.1.getD 0 .undef)), (proj 11 (q8.1.getD 0 .undef)), (proj 12 (q8.1.getD 0 .undef)), (proj 13 (q8.1.getD 0 .undef)), (proj 14 (q8.1.getD 0 .undef)), (proj 15 (q8.1.getD 0 .undef)), (proj 16 (q8.1.getD 0 .undef)), (proj 17 (q8.1.getD 0 .undef)), (proj 18 (q8.1.getD 0 .undef)), (proj 19 (q8.1.getD 0 .undef)), (proj 20 (q8.1.getD 0 .undef)), (proj 21 (q8.1.getD 0 .undef)), (proj 22 (q8.1.getD 0 .undef))])])])], q8.2)) := evP_of [5] (by kernel_rfl)
theorem fix_judge_judging_rec (x0 : Nat) (x1 : DV) (x2 : DV) (x3 : DV) (sg : List SObj) : (run cfg).r F_judge_judging_rec [(.undef, (.ptr x0 0)), (x1, .val), (x2, .val), (x3, .val)] sg = P_judge_judging_rec (run cfg) x0 x1 x2 x3 sg :=
  (fix_raw (C := cfg) (f := F_judge_judging_rec) (s := sig_judge_judging_rec) (fn := Try.f210) (c := code_judge_judging_rec) (by kernel_rfl) Try.func210 (by kernel_rfl)).trans (by kernel_rfl)
theorem call_judge_judging_rec (x0 : Nat) (x1 : DV) (x2 : DV) (x3 : DV) (sg : List SObj) {q : List DV × List SObj} (h : P_judge_judging_rec (run cfg) x0 x1 x2 x3 sg = some q) : (run cfg).r F_judge_judging_rec [(.undef, (.ptr x0 0)), (x1, .val), (x2, .val), (x3, .val)] sg = some q := (fix_judge_judging_rec x0 x1 x2 x3 sg).trans h

/-! ### judge_judging_match -/
noncomputable def code_judge_judging_match : Code := Try.f211.body.getD .skip
noncomputable def P_judge_judging_match (R : Orc) (x0 : Nat) (x1 : DV) (x2 : DV) (x3 : DV) (sg : List SObj) : Option (List DV × List SObj) := evP cfg R fl_judge_judging_match (retR cfg.P Try.f211 sig_judge_judging_match) [] code_judge_judging_match (initSt Try.f211 [(.undef, (.ptr x0 0)), (x1, .val), (x2, .val), (x3, .val)] sg)
noncomputable def P_judge_judging_match_4h (R : Orc) (t0i : Nat) (t3 : DV) (t11 : DV) (t35 : DV) (t36 : DV) (t37 : DV) (b5 : DV) (b6 : DV) (b8_0 : DV) (b8_1 : DV) (b8_2 : DV) (b8_3 : DV) (b8_4 : DV) (b8_5 : DV) (b8_6 : DV) (b8_7 : DV) (b8_8 : DV) (b8_9 : DV) (b8_10 : DV) (b8_11 : DV) (b8_12 : DV) (b8_13 : DV) (b8_14 : DV) (b8_15 : DV) (b8_16 : DV) (b8_17 : DV) (b8_18 : DV) (b8_19 : DV) (b8_20 : DV) (b8_21 : DV) (b8_22 : DV) (b9 : DV) (b10 : DV) (sg : List SObj) : Option (List DV × List SObj) := headP cfg R fl_judge_judging_match (retR cfg.P Try.f211 sig_judge_judging_match) [true, true, true, false, true, false] code_judge_judging_match ⟨spread .undef 95 0 [(3, t3), (11, t11), (35, t35), (36, t36), (37, t37)], spread .val 95 0 [(0, (.ptr t0i 0)), (5, (.loc 5 0)), (6, (.loc 6 0)), (8, (.loc 8 0)), (9, (.loc 9 0)), (10, (.loc 10 0)), (11, .own)], spread none 95 0 [(5, some [((proj 0 b5), .val), ((proj 1 b5), .val), ((proj 2 b5), .val), ((proj 3 b5), .val), ((proj 4 b5), .val), ((proj 5 b5), .val), ((proj 6 b5), .val), ((proj 7 b5), .val), ((proj 8 b5), .val), ((proj 9 b5), .val), ((proj 10 b5), .val), ((proj 11 b5), .val), ((proj 12 b5), .val), ((proj 13 b5), .val), ((proj 14 b5), .val), ((proj 15 b5), .val)]), (6, some [((proj 0 b6), .val), ((proj 1 b6), .val), ((proj 2 b6), .val)]), (8, some [(b8_0, .val), (b8_1, .val), (b8_2, .val), (b8_3, .val), (b8_4, .val), (b8_5, .val), (b8_6, .val), (b8_7, .val), (b8_8, .val), (b8_9, .val), (b8_10, .val), (b8_11, .val), (b8_12, .val), (b8_13, .val), (b8_14, .val), (b8_15, .val), (b8_16, .val), (b8_17, .val), (b8_18, .val), (b8_19, .val), (b8_20, .val), (b8_21, .val), (b8_22, .val)]), (9, some [((proj 0 b9), .val), ((proj 1 b9), .val), ((proj 2 b9), .val)]), (10, some [((proj 0 b10), .val), ((proj 1 b10), .val), ((proj 2 b10), .val)])], sg⟩
noncomputable def P_judge_judging_match_14h (R : Orc) (t0i : Nat) (t3 : DV) (t11 : DV) (t12 : DV) (t16 : DV) (t35 : DV) (t36 : DV) (t37 : DV) (t60 : DV) (t61 : DV) (t62 : DV) (b5 : DV) (b6 : DV) (b8_0 : DV) (b8_1 : DV) (b8_2 : DV) (b8_3 : DV) (b8_4 : DV) (b8_5 : DV) (b8_6 : DV) (b8_7 : DV) (b8_8 : DV) (b8_9 : DV) (b8_10 : DV) (b8_11 : DV) (b8_12 : DV) (b8_13 : DV) (b8_14 : DV) (b8_15 : DV) (b8_16 : DV) (b8_17 : DV) (b8_18 : DV) (b8_19 : DV) (b8_20 : DV) (b8_21 : DV) (b8_22 : DV) (b9 : DV) (b10 : DV) (sg : List SObj) : Option (List DV × List SObj) := headP cfg R fl_judge_judging_match (retR cfg.P Try.f211 sig_judge_judging_match) [true, true, true, false, true, false, false, true, true, false, false, true, true, true, true, true, false, true, false] code_judge_judging_match ⟨spread .undef 95 0 [(3, t3), (11, t11), (12, t12), (16, t16), (35, t35), (36, t36), (37, t37), (60, t60), (61, t61), (62, t62)], spread .val 95 0 [(0, (.ptr t0i 0)), (5, (.loc 5 0)), (6, (.loc 6 0)), (8, (.loc 8 0)), (9, (.loc 9 0)), (10, (.loc 10 0)), (11, .own), (16, .own)], spread none 95 0 [(5, some [((proj 0 b5), .val), ((proj 1 b5), .val), ((proj 2 b5), .val), ((proj 3 b5), .val), ((proj 4 b5), .val), ((proj 5 b5), .val), ((proj 6 b5), .val), ((proj 7 b5), .val), ((proj 8 b5), .val), ((proj 9 b5), .val), ((proj 10 b5), .val), ((proj 11 b5), .val), ((proj 12 b5), .val), ((proj 13 b5), .val), ((proj 14 b5), .val), ((proj 15 b5), .val)]), (6, some [((proj 0 b6), .val), ((proj 1 b6), .val), ((proj 2 b6), .val)]), (8, some [(b8_0, .val), (b8_1, .val), (b8_2, .val), (b8_3, .val), (b8_4, .val), (b8_5, .val), (b8_6, .val), (b8_7, .val), (b8_8, .val), (b8_9, .val), (b8_10, .val), (b8_11, .val), (b8_12, .val), (b8_13, .val), (b8_14, .val), (b8_15, .val), (b8_16, .val), (b8_17, .val), (b8_18, .val), (b8_19, .val), (b8_20, .val), (b8_21, .val), (b8_22, .val)]), (9, some [((proj 0 b9), .val), ((proj 1 b9), .val), ((proj 2 b9), .val)]), (10, some [((proj 0 b10), .val), ((proj 1 b10), .val), ((proj 2 b10), .val)])], sg⟩
theorem eq_judge_judging_match (R : Orc) (x0 : Nat) (x1 : DV) (x2 : DV) (x3 : DV) (sg : List SObj) : P_judge_judging_match R x0 x1 x2 x3 sg =
  (og (isAggN 16 x1) <|
  og (isAggN 3 x2) <|
  ob (dIdx 3 (proj 0 x2) (.int .i64 0)) fun d1 =>
  ob (dIdx 3 (proj 0 x2) (.int .i64 1)) fun d2 =>
  ob (R.r F_judge_judging_fits [(.undef, (.ptr x0 0)), ((.agg [(proj 0 x1), (proj 1 x1), (proj 2 x1), (proj 3 x1), (proj 4 x1), (proj 5 x1), (proj 6 x1), (proj 7 x1), (proj 8 x1), (proj 9 x1), (proj 10 x1), (proj 11 x1), (proj 12 x1), (proj 13 x1), (proj 14 x1), (proj 15 x1)]), .val), ((.agg [(proj 0 x2), (proj 1 x2), (proj 2 x2)]), .val), ((.int .i64 0), .val), (x3, .val), ((.agg [(proj 0 d1), (proj 1 d1), (proj 2 d1)]), .val)] sg) fun q3 =>
  og (isAggN 20 (q3.1.getD 0 .undef)) <|
  ob (dLen (proj 14 x1)) fun d4 =>
  P_judge_judging_match_4h R x0 x3 (.list 20 [(q3.1.getD 0 .undef)]) (proj 14 x1) d4 (.int .i64 0) x1 x2 (.int .i64 0) (.int .i64 0) (.list 3 []) (.int .i64 0) (.int .i64 0) (.int .i64 0) (.str ⟨#[]⟩) (.str ⟨#[]⟩) (.int .i64 0) (.str ⟨#[]⟩) (.int .i64 0) (.int .i64 0) (.bool false) (.list 1 []) (.int .i64 0) (.int .i64 0) (.list 3 []) (.int .i64 0) (.int .i64 0) (.list 3 []) (.list 3 []) (.list 7 []) (.list 20 []) d1 d2 q3.2) := evP_of [] (by kernel_rfl)
theorem eq_judge_judging_match_4h (R : Orc) (t0i : Nat) (t3 : DV) (t11 : DV) (t35 : DV) (t36 : DV) (t37 : DV) (b5 : DV) (b6 : DV) (b8_0 : DV) (b8_1 : DV) (b8_2 : DV) (b8_3 : DV) (b8_4 : DV) (b8_5 : DV) (b8_6 : DV) (b8_7 : DV) (b8_8 : DV) (b8_9 : DV) (b8_10 : DV) (b8_11 : DV) (b8_12 : DV) (b8_13 : DV) (b8_14 : DV) (b8_15 : DV) (b8_16 : DV) (b8_17 : DV) (b8_18 : DV) (b8_19 : DV) (b8_20 : DV) (b8_21 : DV) (b8_22 : DV) (b9 : DV) (b10 : DV) (sg : List SObj) : P_judge_judging_match_4h R t0i t3 t11 t35 t36 t37 b5 b6 b8_0 b8_1 b8_2 b8_3 b8_4 b8_5 b8_6 b8_7 b8_8 b8_9 b8_10 b8_11 b8_12 b8_13 b8_14 b8_15 b8_16 b8_17 b8_18 b8_19 b8_20 b8_21 b8_22 b9 b10 sg =
  (ob (dBin .lss t37 t36) fun d1 =>
  oif d1
   (ob (dIdx 7 t35 t37) fun d2 =>
   ob (R.r F_judge_judging_ok [(.undef, (.ptr t0i 0))] sg) fun q3 =>
   ob (dUn .not (q3.1.getD 0 .undef)) fun d4 =>
   oif d4
    (some ([(.agg [(.int .i64 0), (.int .i64 0), (.list 3 []), (.int .i64 0), (.int .i64 0), (.int .i64 0), (.str ⟨#[]⟩), (.str ⟨#[]⟩), (.int .i64 0), (.str ⟨#[]⟩), (.int .i64 0), (.int .i64 0), (.bool false), (.list 1 []), (.int .i64 0), (.int .i64 0), (.list 3 []), (.int .i64 0), (.int .i64 0), (.list 3 []), (.list 3 []), (.list 7 []), (.list 20 [])])], q3.2))
    (ob (R.p F_pats_Bind [(.agg [(proj 0 d2), (proj 1 d2), (proj 2 d2), (proj 3 d2), (proj 4 d2), (proj 5 d2), (proj 6 d2)]), (.agg [(proj 0 b9), (proj 1 b9), (proj 2 b9)])]) fun d5 =>
    ob (dExt 0 d5) fun d6 =>
    ob (dExt 1 d5) fun d7 =>
    ob (dBin .neq d7 (.int .i64 0)) fun d8 =>
    oif d8
     (ob (R.r F_judge_judging_fails [(.undef, (.ptr t0i 0)), (d7, .val)] q3.2) fun q9 =>
     some ([(.agg [(.int .i64 0), (.int .i64 0), (.list 3 []), (.int .i64 0), (.int .i64 0), (.int .i64 0), (.str ⟨#[]⟩), (.str ⟨#[]⟩), (.int .i64 0), (.str ⟨#[]⟩), (.int .i64 0), (.int .i64 0), (.bool false), (.list 1 []), (.int .i64 0), (.int .i64 0), (.list 3 []), (.int .i64 0), (.int .i64 0), (.list 3 []), (.list 3 []), (.list 7 []), (.list 20 [])])], q9.2))
     (ob (R.r F_judge_with [(t3, .val), ((.list 5 []), .val)] q3.2) fun q10 =>
     ob (dLen d6) fun d11 =>
     P_judge_judging_match_14h R t0i t3 t11 t37 (q10.1.getD 0 .undef) t35 t36 t37 d6 d11 (.int .i64 0) b5 b6 b8_0 b8_1 b8_2 b8_3 b8_4 b8_5 b8_6 b8_7 b8_8 b8_9 b8_10 b8_11 b8_12 b8_13 b8_14 b8_15 b8_16 b8_17 b8_18 b8_19 b8_20 b8_21 b8_22 b9 b10 q10.2)))
   (og (isCell (proj 14 b5)) <|
   some ([(.agg [(proj 0 b10), (proj 1 b10), (proj 2 b10), (.int .i64 14), (proj 1 b5), (proj 2 b5), (.str ⟨#[]⟩), (.str ⟨#[]⟩), (.int .i64 0), (.str ⟨#[]⟩), (.int .i64 0), (.int .i64 0), (.bool false), (.list 1 []), (.int .i64 0), (.int .i64 0), (.list 3 []), (.int .i64 0), (.int .i64 0), (.list 3 []), (.list 3 []), (proj 14 b5), t11])], sg))) := headP_of [] (by kernel_rfl)
theorem eq_judge_judging_match_14h (R : Orc) (t0i : Nat) (t3 : DV) (t11 : DV) (t12 : DV) (t16 : DV) (t35 : DV) (t36 : DV) (t37 : DV) (t60 : DV) (t61 : DV) (t62 : DV) (b5 : DV) (b6 : DV) (b8_0 : DV) (b8_1 : DV) (b8_2 : DV) (b8_3 : DV) (b8_4 : DV) (b8_5 : DV) (b8_6 : DV) (b8_7 : DV) (b8_8 : DV) (b8_9 : DV) (b8_10 : DV) (b8_11 : DV) (b8_12 : DV) (b8_13 : DV) (b8_14 : DV) (b8_15 : DV) (b8_16 : DV) (b8_17 : DV) (b8_18 : DV) (b8_19 : DV) (b8_20 : DV) (b8_21 : DV) (b8_22 : DV) (b9 : DV) (b10 : DV) (sg : List SObj) : P_judge_judging_match_14h R t0i t3 t11 t12 t16 t35 t36 t37 t60 t61 t62 b5 b6 b8_0 b8_1 b8_2 b8_3 b8_4 b8_5 b8_6 b8_7 b8_8 b8_9 b8_10 b8_11 b8_12 b8_13 b8_14 b8_15 b8_16 b8_17 b8_18 b8_19 b8_20 b8_21 b8_22 b9 b10 sg =
  (ob (dBin .lss t62 t61) fun d1 =>
  oif d1
   (ob (dIdx 4 t60 t62) fun d2 =>
   og (isCell (proj 0 d2)) <|
   ob (dApp 5 t16 (.list 5 [(.agg [(proj 0 d2), (proj 1 d2), (proj 2 d2), (proj 3 d2), (.list 1 [])])])) fun d3 =>
   ob (dBin .add t62 (.int .i64 1)) fun d4 =>
   P_judge_judging_match_14h R t0i t3 t11 t12 d3 t35 t36 t37 t60 t61 d4 b5 b6 b8_0 b8_1 b8_2 b8_3 b8_4 b8_5 b8_6 b8_7 b8_8 b8_9 b8_10 b8_11 b8_12 b8_13 b8_14 b8_15 b8_16 b8_17 b8_18 b8_19 b8_20 b8_21 b8_22 b9 b10 sg)
   (ob (dBin .add t12 (.int .i64 1)) fun d5 =>
   ob (R.r F_judge_judging_fits [(.undef, (.ptr t0i 0)), ((.agg [(proj 0 b5), (proj 1 b5), (proj 2 b5), (proj 3 b5), (proj 4 b5), (proj 5 b5), (proj 6 b5), (proj 7 b5), (proj 8 b5), (proj 9 b5), (proj 10 b5), (proj 11 b5), (proj 12 b5), (proj 13 b5), (proj 14 b5), (proj 15 b5)]), .val), ((.agg [(proj 0 b6), (proj 1 b6), (proj 2 b6)]), .val), (d5, .val), (t16, .val), ((.agg [(proj 0 b10), (proj 1 b10), (proj 2 b10)]), .val)] sg) fun q6 =>
   og (isAggN 20 (q6.1.getD 0 .undef)) <|
   ob (dApp 20 t11 (.list 20 [(q6.1.getD 0 .undef)])) fun d7 =>
   ob (dBin .add t37 (.int .i64 1)) fun d8 =>
   P_judge_judging_match_4h R t0i t3 d7 t35 t36 d8 b5 b6 b8_0 b8_1 b8_2 b8_3 b8_4 b8_5 b8_6 b8_7 b8_8 b8_9 b8_10 b8_11 b8_12 b8_13 b8_14 b8_15 b8_16 b8_17 b8_18 b8_19 b8_20 b8_21 b8_22 b9 b10 q6.2)) := headP_of [] (by kernel_rfl)
theorem fix_judge_judging_match (x0 : Nat) (x1 : DV) (x2 : DV) (x3 : DV) (sg : List SObj) : (run cfg).r F_judge_judging_match [(.undef, (.ptr x0 0)), (x1, .val), (x2, .val), (x3, .val)] sg = P_judge_judging_match (run cfg) x0 x1 x2 x3 sg :=
  (fix_raw (C := cfg) (f := F_judge_judging_match) (s := sig_judge_judging_match) (fn := Try.f211) (c := code_judge_judging_match) (by kernel_rfl) Try.func211 (by kernel_rfl)).trans (by kernel_rfl)
theorem call_judge_judging_match (x0 : Nat) (x1 : DV) (x2 : DV) (x3 : DV) (sg : List SObj) {q : List DV × List SObj} (h : P_judge_judging_match (run cfg) x0 x1 x2 x3 sg = some q) : (run cfg).r F_judge_judging_match [(.undef, (.ptr x0 0)), (x1, .val), (x2, .val), (x3, .val)] sg = some q := (fix_judge_judging_match x0 x1 x2 x3 sg).trans h

end Go.Su

/-
  All equations.
-/
namespace Go.Su
end Go.Su
